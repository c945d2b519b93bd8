import PyProof.Rows.All
import Wide.All
import OpenK.AllK
import Wide.FinOn
import HandS.ForMost
import HandS.Exc
import HandS.ExcOwn
import HandS.TryOnly
import HandS.WordsExc
import HandS.Walk
import HandS.Conv
import HandS.SortInts
import HandS.Wide
import HandS.IsInst
import HandS.Zip
import HandS.TupAny
import HandS.Evl
import HandS.HeadHook2
import HandS.HeadHook4
import HandS.Style
import HandS.ExcIs
import HandS.SetFor
import KE.DataMinMax
import HandS.HotCalls
import KE.GoesEnum
import HandS.Rev
import HandS.RevRange
import HandS.Dict
import HandS.WordsDict
import HandS.Flt
import HandS.ExcInit
import HandS.ExcField
import PyProof.EnumMake
import PyProof.EnumFor
import HandS.Strs
import HandS.Text
import PyProof.StrOps2
import HandS.Head0
import HandS.Head1
import HandS.Head2
import HandS.HeadEnd
import HandS.Codes
import PySem.Challenge.RW_busyweb_k69_webs_as_texts
set_option Elab.async false
set_option linter.all false
set_option maxRecDepth 100000
set_option maxHeartbeats 8000000
/-! BCore0: new tuples, told with the object that they are. -/
namespace BW
open PySem PySem.Spec PyProof.Rows L2
/-- a new tuple as an object -/
abbrev tObj (us : List Value) : Obj := { cls := .type "tuple", data := .seq us.toArray }
section
variable {X : Cx} {pins : List (Addr × Obj)} {σ : L2.St} {H : Hp} {s : Shared}
theorem new_tup {tk : Nat} (I : Inv X pins σ H s) {xs : List V} {us : List Value} (r : Vals xs us) (z : xs.length ≤ sizeLine) :
    Inv X pins σ (upd H s.heap.objs.size (.frz (tObj us) (.tup xs))) { s with heap := s.heap.push (tObj us), toks := tk } :=
  I.laid (t' := tk) (fun _ _ q => Heap.get?_push_of_some _ q) (Nat.le_refl _) ⟨Heap.get?_push_size _ rfl, z, us, r, IsTup.new _ _⟩
/-- what is wished of a new tuple -/
abbrev NewT (xs : List V) (H : Hp) (Q : VK) : Prop := ∀ (p : Addr) (ob : Obj), H p = none → ob.dict = none → Q (.ref p) (upd H p (.frz ob (.tup xs)))
theorem newT_run {tk : Nat} {xs : List V} {Q : VK} (I : Inv X pins σ H s) {us : List Value} (r : Vals xs us) (z : xs.length ≤ sizeLine) (q : NewT xs H Q) :
    EP X pins σ Q (.ref s.heap.objs.size) { s with heap := s.heap.push (tObj us), toks := tk } :=
  ⟨.ref s.heap.objs.size, _, new_tup I r z, rfl, q _ _ (I.hok.fresh (Nat.le_refl _)) rfl⟩
end
section
variable {X : Cx} {es : List Expr} {t : TA} {pos : Pos}
/-- (.., ..) -/
def tTupN (t : TA) : TE := fun σ H Q => t σ H fun xs H1 => xs.length ≤ sizeLine ∧ NewT xs H1 Q
theorem pe_tupN {x1} (h : PA X es t) : PE X (.Tuple es x1 pos) (tTupN t) := ⟨fun pins s σ H Q I hq =>
  wpAny_Tuple_spliced (thn (h.run pos pins s σ H _ I hq) fun us s1 ⟨xs, H1, I1, r, z, q⟩ => ⟨by rw [← r.length]; exact z, newT_run (tk := s1.toks) I1 r z q⟩)⟩
/-- tuple(list), tuple(tuple) -/
def rTupN (K : PySem.W.Frag) : List V → Hp → VK → Prop := fun xs H Q => ∃ p ys, xs = [.ref p] ∧ ((SqL K H p ys ∧ NewT ys H Q) ∨ (SqT K H p ys ∧ Q (.ref p) H))
theorem call_tupN : CallR X (.type "tuple") (rTupN X.K) := by
  rintro pins s σ H xs us Q I r ⟨p, ys, rfl, h⟩
  obtain ⟨u, rfl, rx⟩ := vals1 r
  cases rx
  rcases h with ⟨hq, q⟩ | ⟨hq, q⟩
  · obtain ⟨its, rv, pl, hz⟩ := I.list hq
    have hlen := rv.length
    refine call_tuple_list pl.isList (fun h' kp => ?_) (by simp only [List.size_toArray] <;> omega)
    exact newT_run (s := { s with heap := h' }) (tk := s.toks) (I.kept (t' := s.toks) kp) rv hz q
  · obtain ⟨its, rv, pl, hz⟩ := I.tuple hq
    exact call_tuple_same pl ⟨.ref p, H, I, rfl, q⟩
/-- t[lo:hi] -/
def rSlN (K : PySem.W.Frag) : V → Option Int → Option Int → Hp → VK → Prop := fun x lo hi H Q => ∃ a xs, x = .ref a ∧ SqT K H a xs ∧
  (HT.sIx xs.length 0 lo = 0 ∧ HT.sIx xs.length xs.length hi = xs.length → Q (.ref a) H) ∧ (¬ (HT.sIx xs.length 0 lo = 0 ∧ HT.sIx xs.length xs.length hi = xs.length) → NewT (cutV xs lo hi) H Q)
theorem sl_tupN : SlR X (rSlN X.K) := by
  rintro pins s σ H x v vl vu lo hi sl Q I rx hs pl pu ⟨a, xs, rfl, hx, q1, q2⟩
  cases rx
  obtain ⟨its, rv, ht, hz⟩ := I.tuple hx
  have hn : its.toArray.size = xs.length := by rw [List.size_toArray, rv.length]
  by_cases hw : HT.sIx xs.length 0 lo = 0 ∧ HT.sIx xs.length xs.length hi = xs.length
  · exact ⟨"tuple", _, PyProof.Rows.slot_tuple_getitem.lookup, ht.typeIs, getItem_tuple_whole ht hs pl pu (by rw [hn]; exact hw) ⟨.ref a, H, I, rfl, q1 hw⟩⟩
  · refine ⟨"tuple", _, PyProof.Rows.slot_tuple_getitem.lookup, ht.typeIs, HT.getItem_tuple_cut ht hs pl pu (by rw [hn]; exact hw) ?_ (by rw [hn]; exact hz)⟩
    rw [hn]
    exact newT_run (tk := s.toks) I ((rv.drop _).take _) (Nat.le_trans (cutV_length xs lo hi) hz) (q2 hw)
/-- t + u -/
def rCatN (K : PySem.W.Frag) : R2 := fun x y H Q => ∃ a b xs ys, x = .ref a ∧ y = .ref b ∧ SqT K H a xs ∧ SqT K H b ys ∧ xs.length + ys.length ≤ sizeLine ∧
  (xs = [] → Q (.ref b) H) ∧ (xs ≠ [] → ys = [] → Q (.ref a) H) ∧ (xs ≠ [] → ys ≠ [] → NewT (xs ++ ys) H Q)
theorem op_catN : OpR X (binaryOp .Add) (rCatN X.K) := by
  rintro pins s σ H x y v u Q I rx ry ⟨a, b, xs, ys, rfl, rfl, ha, hb, hz, q0, q1, q2⟩
  cases rx
  cases ry
  obtain ⟨us, r1, p1, _⟩ := I.tuple ha
  obtain ⟨ws, r2, p2, _⟩ := I.tuple hb
  by_cases hx : xs = []
  · subst hx
    cases r1
    exact cat_tup0 p1 p2 ⟨.ref b, H, I, rfl, q0 rfl⟩
  · refine HT.cat_tup p1 p2 (fun z => hx (r1.nil_iff.mp z)) (fun z => ⟨.ref a, H, I, rfl, q1 hx (r2.nil_iff.mp z)⟩) (fun z => ?_) (by rw [← r1.length, ← r2.length]; exact hz)
    exact newT_run (tk := s.toks) I (r1.append r2) (by rw [List.length_append]; exact hz) (q2 hx fun w => z (r2.nil_iff.mpr w))
/-- a method of a tuple, that is told with its object -/
theorem tup_is {pins : List (Addr × Obj)} {σ : L2.St} {H : Hp} {s : Shared} {a : Addr} {ob : Obj} {xs : List V} (I : Inv X pins σ H s) (h : H a = some (.frz ob (.tup xs))) (hd : ob.dict = none) :
    s.TypeIs (.ref a) "tuple" ∧ ∀ b, Value.ref a = .ref b → ∃ o, s.heap.get? b = some o ∧ o.dict = none := by
  obtain ⟨e, z, its, r, tp⟩ := I.hok a _ h
  exact ⟨tp.typeIs, fun b q => by cases q; exact ⟨ob, e, hd⟩⟩
def tTM (r : V → List V → Hp → VK → Prop) (to : TE) (t : TA) : TE := fun σ H Q => to σ H fun x H1 => (∃ a ob xs, x = .ref a ∧ H1 a = some (.frz ob (.tup xs)) ∧ ob.dict = none) ∧ t σ H1 fun xs H2 => r x xs H2 Q
theorem pe_tm {o e : Expr} {es : List Expr} {to : TE} {t : TA} {name : Str} {apos cpos : Pos} {id : String} {r : V → List V → Hp → VK → Prop} (pa : PlainAttrs "tuple") (slot : Slot "tuple" name id) (hty : typeOf (.builtin id) = pure (.type "method_descriptor")) (hm : MtR X id r) (ho : PE X o to) (ha : PA X (e :: es) t) (hbase : attributeBase o name X.env (eval o X.env) = eval o X.env := by rfl) (hfew : ((backTo cpos (starEach (e :: es) X.env)).all (fun x => !x.1) && (backToKw cpos (keywordEach [] X.env)).all (fun x => x.1.isSome)   && decide ((e :: es).length + ([] : List Keyword).length + (if ([] : List Keyword).isEmpty then 0 else 1) < 30)) = true := by rfl) (hline : (apos.endLine == cpos.line) = true := by rfl) (hs : starEach (e :: es) X.env = (false, eval e X.env) :: starEach es X.env := by rfl) (hplain : (backTo cpos (starEach es X.env)).any (·.1) = false := by rfl) : PE X (.Call (.Attribute o name apos) (e :: es) [] cpos) (tTM r to t) := ⟨fun pins s σ H Q I h => by
  refine wpAny_Call_method_late hbase hfew hline rfl (thn (ho.run pins s σ H _ I h) ?_)
  rintro v s1 ⟨x, H1, I1, r1, ⟨a, ob, xs, rfl, hx, hd⟩, q1⟩
  cases r1
  obtain ⟨k1, k2⟩ := tup_is I1 hx hd
  refine ⟨"tuple", id, pa, slot, hty, k1, k2, ?_⟩
  have ran := ha.run cpos pins s1 σ H1 _ I1 q1
  rw [hs] at ran ⊢
  have no : ((false, eval e X.env) :: backTo cpos (starEach es X.env)).any (·.1) = false := by show (false || _) = false; rw [hplain]; rfl
  refine Calls.callWith_builtin no (Calls.evalArgs_plain ?_)
  exact thn ran fun us s2 ⟨vs, H2, I2, r2, q2⟩ => hm pins s2 σ H2 (.ref a) vs (.ref a) us Q I2 rfl r2 q2⟩
end
end BW
/-! BCore1: data, environments, and how they lie in the heap. -/
namespace BW
open PySem PySem.Spec PyProof.Rows L2
open Evl (Ex Ex.refl Ex.trans Ex.new ex_rd ex_l ex_t)

/-! ### data -/
inductive D where
  | non | bl (b : Bool) | int (i : Int) | str (z : Str)
  | lst (l : List D) | tup (l : List D) | scr (l : List Int)
  | obj (c : Nat) (l : List D) | exc (c : Nat) (l : List D) | dct (ks : List Int) (l : List D) | dtt (ks : List (List Int)) (l : List D) | adr (a : Addr)
inductive R (α : Type) where
  | ok (a : α) | er (c : Nat) (p : List D) | no
def R.bind {α β : Type} (x : R α) (f : α → R β) : R β := match x with
  | .ok a => f a
  | .er c p => .er c p
  | .no => .no
/-- what a name that owns all within is told by: its value, or that it is a list whose first items are lists -/
inductive Ow where
  | d (d : D) | n (k b : Nat)
inductive Sl where
  | no | im (d : D) | mu (l : List D) | bo (d : D) | md (ks : List Int) (l : List D) | ow (d : Ow)
abbrev En := List Sl
/-- what a class of the program is called -/
def cn : Nat → Str
  | 0 => "Web" | 1 => "Desk" | 2 => "FlowError" | 3 => "BadWeb" | 4 => "TooMany" | 5 => "BadPlace" | 6 => "BadTie" | 7 => "BadFlow"
  | 8 => "BadRest" | 9 => "NoFlow" | 10 => "BadSet" | 11 => "BadPaper" | 12 => "BadText" | 13 => "BadDeed" | _ => ""
def fns : Nat → List Str
  | 0 => ["many", "ties"] | 1 => ["history"] | _ => []
abbrev CL (K : PySem.W.Frag) (c : Nat) : Addr := He.ga K (cn c)

/-- the name of an error's one field -/
def xf : Nat → Str
  | 9 => "tie" | 12 => "at" | 13 => "at" | _ => ""
/-- an error of a class of the program, as it was made -/
def excO (C : Addr) (od : Option Addr) (a : Addr) : HO := .ext fun h => ∃ oe, h.get? a = some oe ∧ Zc (.ref C) od oe ∧ ∃ vs, oe.data = .fields vs
/-! ### how data lies in a heap -/
/-- a told tuple, with its object -/
def TupN (I : Hp) (a : Addr) (vs : List V) : Prop := ∃ ob : Obj, ob.dict = none ∧ I a = some (.frz ob (.tup vs))
theorem TupN.mono {I J : Hp} {a : Addr} {vs : List V} (h : TupN I a vs) (e : Ex I J) : TupN J a vs := let ⟨ob, d, k⟩ := h; ⟨ob, d, e _ _ k⟩
theorem TupN.sq {K : PySem.W.Frag} {I : Hp} {a : Addr} {vs : List V} (h : TupN I a vs) : SqT K I a vs := let ⟨ob, _, k⟩ := h; .inl (.inr ⟨ob, k⟩)
theorem TupN.rd {I : Hp} {a : Addr} {vs : List V} (h : TupN I a vs) : L2.Rd I a (.tup vs) := let ⟨ob, _, k⟩ := h; .inr ⟨ob, k⟩
theorem TupN.new {I : Hp} {a : Addr} {vs : List V} {ob : Obj} (d : ob.dict = none) : TupN (upd I a (.frz ob (.tup vs))) a vs := ⟨ob, d, upd_same⟩
mutual
inductive Rd (K : PySem.W.Frag) (I : Hp) : V → D → Prop
  | non : Rd K I .non .non
  | bl {b} : Rd K I (.bl b) (.bl b)
  | int {i} : Rd K I (.int i) (.int i)
  | str {z} : Rd K I (.str z) (.str z)
  | lst {a vs ds} : I a = some (.lst vs) → RdA K I vs ds → Rd K I (.ref a) (.lst ds)
  | tup {a vs ds} : TupN I a vs → RdA K I vs ds → Rd K I (.ref a) (.tup ds)
  | scr {a ns} : SqL K I a (ns.map V.int) → Rd K I (.ref a) (.scr ns)
  | obj {a c dx vs ds} : I a = some (.ins (CL K c) dx ((fns c).zip vs)) → vs.length = (fns c).length → RdA K I vs ds → Rd K I (.ref a) (.obj c ds)
  | exc0 {a c} : I a = some (excO (CL K c) none a) → Rd K I (.ref a) (.exc c [])
  | exc1 {a c dx v d} : I a = some (excO (CL K c) (some dx) a) → I dx = some (.xd [(xf c, v)]) → Rd K I v d → Rd K I (.ref a) (.exc c [d])
  | dct {a ob kvs ks ds} : I a = some (.frz ob (.dK kvs)) → kvs.map (·.1) = ks.map Sum.inl → RdA K I (kvs.map (·.2)) ds → Rd K I (.ref a) (.dct ks ds)
  | dtt {a kvs ks ds} : I a = some (.dT kvs) → kvs.map (·.1) = ks.map (fun k => k.map Sum.inl) → RdA K I (kvs.map (·.2)) ds → Rd K I (.ref a) (.dtt ks ds)
  | adr {a} : Rd K I (.ref a) (.adr a)
inductive RdA (K : PySem.W.Frag) (I : Hp) : List V → List D → Prop
  | nil : RdA K I [] []
  | cons {v d vs ds} : Rd K I v d → RdA K I vs ds → RdA K I (v :: vs) (d :: ds)
end
section
variable {K : PySem.W.Frag} {I I' J : Hp}
mutual
theorem Rd.mono (e : Ex I I') : ∀ {v : V} {d : D}, Rd K I v d → Rd K I' v d
  | _, _, .non => .non
  | _, _, .bl => .bl
  | _, _, .int => .int
  | _, _, .str => .str
  | _, _, .lst h q => .lst (e _ _ h) (RdA.mono e q)
  | _, _, .tup h q => .tup (h.mono e) (RdA.mono e q)
  | _, _, .scr h => .scr (ex_l e h)
  | _, _, .obj h l q => .obj (e _ _ h) l (RdA.mono e q)
  | _, _, .exc0 h => .exc0 (e _ _ h)
  | _, _, .exc1 h k q => .exc1 (e _ _ h) (e _ _ k) (Rd.mono e q)
  | _, _, .dct h k q => .dct (e _ _ h) k (RdA.mono e q)
  | _, _, .dtt h k q => .dtt (e _ _ h) k (RdA.mono e q)
  | _, _, .adr => .adr
theorem RdA.mono (e : Ex I I') : ∀ {v : List V} {d : List D}, RdA K I v d → RdA K I' v d
  | _, _, .nil => .nil
  | _, _, .cons h q => .cons (Rd.mono e h) (RdA.mono e q)
end
theorem RdA.length : ∀ {vs : List V} {ds : List D}, RdA K I vs ds → vs.length = ds.length
  | _, _, .nil => rfl
  | _, _, .cons _ q => by rw [List.length_cons, List.length_cons, RdA.length q]
theorem RdA.get : ∀ {vs : List V} {ds : List D}, RdA K I vs ds → ∀ {i : Nat} {d : D}, ds[i]? = some d → ∃ v, vs[i]? = some v ∧ Rd K I v d
  | _, _, .nil, i, d, h => by simp at h
  | _, _, .cons h q, 0, d, e => by
    have e' := Option.some.inj e
    subst e'
    exact ⟨_, rfl, h⟩
  | _, _, .cons h q, i + 1, d, e => RdA.get q (i := i) e
theorem RdA.getV : ∀ {vs : List V} {ds : List D}, RdA K I vs ds → ∀ {i : Nat} {v : V}, vs[i]? = some v → ∃ d, ds[i]? = some d ∧ Rd K I v d
  | _, _, .nil, i, d, h => by simp at h
  | _, _, .cons h q, 0, d, e => by
    have e' := Option.some.inj e
    subst e'
    exact ⟨_, rfl, h⟩
  | _, _, .cons h q, i + 1, d, e => RdA.getV q (i := i) e
theorem RdA.append : ∀ {vs ws : List V} {ds es : List D}, RdA K I vs ds → RdA K I ws es → RdA K I (vs ++ ws) (ds ++ es)
  | _, _, _, _, .nil, h => h
  | _, _, _, _, .cons h q, k => .cons h (RdA.append q k)
theorem RdA.snoc {vs : List V} {ds : List D} {v : V} {d : D} (h : RdA K I vs ds) (k : Rd K I v d) : RdA K I (vs ++ [v]) (ds ++ [d]) := h.append (.cons k .nil)
theorem RdA.drop : ∀ (n : Nat) {vs : List V} {ds : List D}, RdA K I vs ds → RdA K I (vs.drop n) (ds.drop n)
  | 0, _, _, h => h
  | _ + 1, _, _, .nil => .nil
  | n + 1, _, _, .cons _ q => RdA.drop n q
theorem RdA.take : ∀ (n : Nat) {vs : List V} {ds : List D}, RdA K I vs ds → RdA K I (vs.take n) (ds.take n)
  | 0, _, _, h => by simp; exact .nil
  | _ + 1, _, _, .nil => .nil
  | n + 1, _, _, .cons h q => .cons h (RdA.take n q)
theorem RdA.set : ∀ {vs : List V} {ds : List D} {v : V} {d : D}, RdA K I vs ds → Rd K I v d → ∀ n, RdA K I (vs.set n v) (ds.set n d)
  | _, _, _, _, .nil, _, _ => .nil
  | _, _, _, _, .cons _ q, k, 0 => .cons k q
  | _, _, _, _, .cons h q, k, n + 1 => .cons h (RdA.set q k n)
theorem RdA.reverse : ∀ {vs : List V} {ds : List D}, RdA K I vs ds → RdA K I vs.reverse ds.reverse
  | _, _, .nil => .nil
  | _, _, .cons h q => by
    rw [List.reverse_cons, List.reverse_cons]
    exact (RdA.reverse q).snoc h
theorem RdA.eraseIdx : ∀ {vs : List V} {ds : List D}, RdA K I vs ds → ∀ n, RdA K I (vs.eraseIdx n) (ds.eraseIdx n)
  | _, _, .nil, _ => .nil
  | _, _, .cons _ q, 0 => q
  | _, _, .cons h q, n + 1 => .cons h (RdA.eraseIdx q n)
theorem RdA.ints : ∀ {ns : List Int}, RdA K I (ns.map V.int) (ns.map D.int)
  | [] => .nil
  | _ :: _ => .cons .int RdA.ints
theorem RdA.ints_inv : ∀ {ns : List Int} {vs : List V}, RdA K I vs (ns.map D.int) → vs = ns.map V.int
  | [], _, h => by
    have h' : RdA K I _ [] := h
    cases h'
    rfl
  | n :: ns, _, h => by
    have h' : RdA K I _ (D.int n :: ns.map D.int) := h
    cases h' with
    | cons h q =>
      cases h
      rw [RdA.ints_inv q]
      rfl
/-- scalars: their value hangs on no heap -/
def D.sc : D → Option V
  | .non => some .non
  | .bl b => some (.bl b)
  | .int i => some (.int i)
  | .str z => some (.str z)
  | _ => none
theorem Rd.sc {v w : V} {d : D} (h : Rd K I v d) (e : d.sc = some w) : v = w := by
  cases h <;> first | exact Option.some.inj e | cases e
theorem Rd.of_sc {w : V} {d : D} (e : d.sc = some w) : Rd K I w d := by
  cases d <;> first | (have e' := Option.some.inj e; subst e'; constructor) | cases e
theorem Rd.sc_any {v : V} {d : D} {w : V} (h : Rd K I v d) (e : d.sc = some w) : Rd K J v d := by
  rw [h.sc e]
  exact Rd.of_sc e
end

/-! ### heaps that grow -/
structure Grow (I H I' H' : Hp) : Prop where
  i : Ex I I'
  h : Ex H H'
  ih : Ex I' H'
  new : ∀ a o, I' a = some o → I a = some o ∨ H a = none
theorem Grow.refl {I H : Hp} (e : Ex I H) : Grow I H I H := ⟨Ex.refl _, Ex.refl _, e, fun _ _ h => .inl h⟩
theorem Grow.trans {I H I1 H1 I2 H2 : Hp} (a : Grow I H I1 H1) (b : Grow I1 H1 I2 H2) : Grow I H I2 H2 :=
  ⟨a.i.trans b.i, a.h.trans b.h, b.ih, fun x o h => (b.new x o h).elim (fun z => a.new x o z) fun z => .inr (Evl.fresh_back a.h z)⟩
/-- a new object, told -/
theorem Grow.push {I H : Hp} {p : Addr} {o : HO} (e : Ex I H) (h : H p = none) : Grow I H (upd I p o) (upd H p o) := by
  have hi : I p = none := Evl.fresh_back e h
  refine ⟨Ex.new hi, Ex.new h, fun a u q => ?_, fun a u q => ?_⟩
  · by_cases z : a = p
    · subst z
      rw [upd_same] at q ⊢
      exact q
    · rw [upd_ne z] at q ⊢
      exact e a u q
  · by_cases z : a = p
    · subst z
      exact .inr h
    · rw [upd_ne z] at q
      exact .inl q
/-- a new object that is told of no further -/
theorem Grow.hid {I H H' : Hp} (e : Ex I H) (h : Ex H H') : Grow I H I H' := ⟨Ex.refl _, h, e.trans h, fun _ _ q => .inl q⟩

/-! ### what is private -/
/-- without lists -/
def nol (I : Hp) : Hp := fun a => match I a with
  | some (.lst _) => none
  | o => o
def mrg (I J : Hp) : Hp := fun a => match I a with
  | some o => some o
  | none => J a
theorem nol_some {I : Hp} {a : Addr} {o : HO} (h : nol I a = some o) : I a = some o ∧ ∀ vs, o ≠ .lst vs := by
  unfold nol at h
  split at h
  · cases h
  · rename_i hn
    exact ⟨h, fun vs e => hn vs (by rw [h, e])⟩
theorem nol_mk {I : Hp} {a : Addr} {o : HO} (h : I a = some o) (hn : ∀ vs, o ≠ .lst vs) : nol I a = some o := by
  unfold nol
  rw [h]
  cases o <;> first | rfl | exact absurd rfl (hn _)
theorem nol_mono {I I' : Hp} (e : Ex I I') : Ex (nol I) (nol I') := fun a o h => by
  obtain ⟨h1, h2⟩ := nol_some h
  exact nol_mk (e a o h1) h2
theorem nol_none {I : Hp} {a : Addr} (h : I a = none) : nol I a = none := by unfold nol; rw [h]
theorem mrg_l {I J : Hp} {a : Addr} {o : HO} (h : I a = some o) : mrg I J a = some o := by unfold mrg; rw [h]
theorem mrg_r {I J : Hp} {a : Addr} (h : I a = none) : mrg I J a = J a := by unfold mrg; rw [h]
theorem mrg_or {I J : Hp} {a : Addr} {o : HO} (h : mrg I J a = some o) : I a = some o ∨ (I a = none ∧ J a = some o) := by
  cases q : I a with
  | some u => rw [mrg_l q] at h; exact .inl h
  | none => rw [mrg_r q] at h; exact .inr ⟨rfl, h⟩
theorem mrg_mono {I I' J : Hp} (e : Ex I I') (hj : ∀ a o, J a = some o → I' a = none) : Ex (mrg (nol I) J) (mrg (nol I') J) := fun a o h => by
  rcases mrg_or h with z | ⟨_, z⟩
  · exact mrg_l (nol_mono e a o z)
  · rw [mrg_r (nol_none (hj a o z))]
    exact z
theorem mrg_ex {I J H : Hp} (e : Ex I H) (j : Ex J H) : Ex (mrg (nol I) J) H := fun a o h => by
  rcases mrg_or h with z | ⟨_, z⟩
  · exact e a o (nol_some z).1
  · exact j a o z
theorem set_get {env : En} {i j : Nat} {s t : Sl} (h : (env.set i s)[j]? = some t) : (i = j ∧ t = s) ∨ (i ≠ j ∧ env[j]? = some t) := by
  by_cases c : i = j
  · subst c
    have hl : i < env.length := by
      have := (List.getElem?_eq_some_iff.mp h).1
      rwa [List.length_set] at this
    rw [List.getElem?_set_self hl] at h
    exact .inl ⟨rfl, (Option.some.inj h).symm⟩
  · rw [List.getElem?_set_ne c] at h
    exact .inr ⟨c, h⟩
/-- at most b values, the first k of them lists of J of at most b values -/
def Lsk (J : Hp) (k b : Nat) (vs : List V) : Prop := vs.length ≤ b ∧ ∀ i, i < k → ∃ q us, vs[i]? = some (.ref q) ∧ J q = some (.lst us) ∧ us.length ≤ b
def RdW (K : PySem.W.Frag) (I J : Hp) (v : V) : Ow → Prop
  | .d d => Rd K (mrg (nol I) J) v d
  | .n k b => ∃ p vs, v = .ref p ∧ J p = some (.lst vs) ∧ Lsk J k b vs
theorem RdW.mono {K : PySem.W.Frag} {I I' J : Hp} {v : V} {d : Ow} (h : RdW K I J v d) (e : Ex (mrg (nol I) J) (mrg (nol I') J)) : RdW K I' J v d := by
  cases d with
  | d d => exact Rd.mono e h
  | n k b => exact h
/-- a private part -/
structure Own (env : En) (σ : L2.St) (I H0 H J : Hp) : Prop where
  h : Ex J H
  i : ∀ a o, J a = some o → I a = none
  z : ∀ a o, J a = some o → H0 a = none
  l : ∀ a o, J a = some o → ∃ vs, o = .lst vs
  mu : ∀ (j : Nat) (l : List D) (a : Addr), env[j]? = some (Sl.mu l) → σ[j]? = some (some (V.ref a)) → J a = none
  md : ∀ (j : Nat) (ks : List Int) (l : List D) (a : Addr), env[j]? = some (Sl.md ks l) → σ[j]? = some (some (V.ref a)) → J a = none
def OwI (K : PySem.W.Frag) (env : En) (σ : L2.St) (I H0 H : Hp) : Prop := ∀ (i : Nat) (d : Ow), env[i]? = some (Sl.ow d) → ∃ v J, σ[i]? = some (some v) ∧ Own env σ I H0 H J ∧ RdW K I J v d
theorem OwI.next {K : PySem.W.Frag} {env env' : En} {σ σ' : L2.St} {I I' H0 H H' : Hp} (o : OwI K env σ I H0 H) (he : ∀ (j : Nat) (d : Ow), env'[j]? = some (Sl.ow d) → env[j]? = some (Sl.ow d) ∧ σ'[j]? = σ[j]?) (hi : Ex I I') (hJ : ∀ J, Own env σ I H0 H J → Own env' σ' I' H0 H' J) : OwI K env' σ' I' H0 H' := fun i d e => by
  obtain ⟨e1, e2⟩ := he i d e
  obtain ⟨v, J, h1, h2, h3⟩ := o i d e1
  exact ⟨v, J, by rw [e2]; exact h1, hJ J h2, h3.mono (mrg_mono hi (hJ J h2).i)⟩
/-- a slot that is set to what is neither own nor private -/
theorem Own.set {env : En} {σ : L2.St} {I H0 H J : Hp} (w : Own env σ I H0 H J) {i : Nat} {s : Sl} {x : Option V} (hm : ∀ l, s ≠ Sl.mu l) (hd : ∀ ks l, s ≠ Sl.md ks l) : Own (env.set i s) (σ.set i x) I H0 H J := by
  refine ⟨w.h, w.i, w.z, w.l, fun j l a e s => ?_, fun j ks l a e s => ?_⟩
  · rcases set_get e with ⟨_, z⟩ | ⟨hij, z⟩
    · exact absurd z.symm (hm l)
    · rw [List.getElem?_set_ne hij] at s
      exact w.mu j l a z s
  · rcases set_get e with ⟨_, z⟩ | ⟨hij, z⟩
    · exact absurd z.symm (hd ks l)
    · rw [List.getElem?_set_ne hij] at s
      exact w.md j ks l a z s
/-- no more slots are own -/
theorem Own.less {env env' : En} {σ σ' : L2.St} {I H0 H J : Hp} (w : Own env σ I H0 H J) (hm : ∀ (j : Nat) (l : List D), env'[j]? = some (Sl.mu l) → (∃ l', env[j]? = some (Sl.mu l')) ∧ σ'[j]? = σ[j]?) (hd : ∀ (j : Nat) (ks : List Int) (l : List D), env'[j]? = some (Sl.md ks l) → (∃ ks' l', env[j]? = some (Sl.md ks' l')) ∧ σ'[j]? = σ[j]?) : Own env' σ' I H0 H J := by
  refine ⟨w.h, w.i, w.z, w.l, fun j l a e s => ?_, fun j ks l a e s => ?_⟩
  · obtain ⟨⟨l', z⟩, y⟩ := hm j l e
    rw [y] at s
    exact w.mu j l' a z s
  · obtain ⟨⟨ks', l', z⟩, y⟩ := hd j ks l e
    rw [y] at s
    exact w.md j ks' l' a z s
/-- the heap changed elsewhere -/
theorem Own.heap {env : En} {σ : L2.St} {I H0 H H' J : Hp} (w : Own env σ I H0 H J) (h : Ex J H') : Own env σ I H0 H' J := ⟨h, w.i, w.z, w.l, w.mu, w.md⟩
theorem ex_upd {J H : Hp} {a : Addr} {o : HO} (h : Ex J H) (n : J a = none) : Ex J (upd H a o) := fun b u z => by
  have nb : b ≠ a := fun e => by rw [e, n] at z; cases z
  rw [upd_ne nb]
  exact h b u z

/-! ### environments -/
structure Rel (K : PySem.W.Frag) (A H0 : Hp) (env : En) (σ : L2.St) (I H : Hp) : Prop where
  g : Grow A H0 I H
  len : σ.length = env.length
  im : ∀ (i : Nat) (d : D), env[i]? = some (Sl.im d) → ∃ v, σ[i]? = some (some v) ∧ Rd K I v d
  mu : ∀ (i : Nat) (l : List D), env[i]? = some (Sl.mu l) → ∃ a vs, σ[i]? = some (some (V.ref a)) ∧ H a = some (.lst vs) ∧ I a = none ∧ H0 a = none ∧ RdA K I vs l
  bo : ∀ (i : Nat) (d : D), env[i]? = some (Sl.bo d) → ∃ v, σ[i]? = some (some v) ∧ Rd K H0 v d
  ap : ∀ (i j : Nat) (l m : List D) (a : Addr), env[i]? = some (Sl.mu l) → env[j]? = some (Sl.mu m) → σ[i]? = some (some (V.ref a)) → σ[j]? = some (some (V.ref a)) → i = j
  md : ∀ (i : Nat) (ks : List Int) (l : List D), env[i]? = some (Sl.md ks l) → ∃ a kvs, σ[i]? = some (some (V.ref a)) ∧ H a = some (.dK kvs) ∧ I a = none ∧ H0 a = none ∧ kvs.map (·.1) = ks.map Sum.inl ∧ RdA K I (kvs.map (·.2)) l
  apd : ∀ (i j : Nat) (ks ls : List Int) (l m : List D) (a : Addr), env[i]? = some (Sl.md ks l) → env[j]? = some (Sl.md ls m) → σ[i]? = some (some (V.ref a)) → σ[j]? = some (some (V.ref a)) → i = j
  ow : OwI K env σ I H0 H
section
variable {K : PySem.W.Frag} {A H0 : Hp} {env : En} {σ : L2.St} {I H I' H' : Hp}
theorem Rel.grow (r : Rel K A H0 env σ I H) (g : Grow I H I' H') : Rel K A H0 env σ I' H' := by
  refine ⟨r.g.trans g, r.len, fun i d e => ?_, fun i l e => ?_, r.bo, r.ap, fun i ks l e => ?_, r.apd, ?_⟩
  · obtain ⟨v, h1, h2⟩ := r.im i d e
    exact ⟨v, h1, h2.mono g.i⟩
  · obtain ⟨a, vs, h1, h2, h3, h4, h5⟩ := r.mu i l e
    refine ⟨a, vs, h1, g.h _ _ h2, ?_, h4, h5.mono g.i⟩
    cases q : I' a with
    | none => rfl
    | some o =>
      rcases g.new a o q with z | z
      · rw [h3] at z
        cases z
      · rw [h2] at z
        cases z
  · obtain ⟨a, vs, h1, h2, h3, h4, h5, h6⟩ := r.md i ks l e
    refine ⟨a, vs, h1, g.h _ _ h2, ?_, h4, h5, h6.mono g.i⟩
    cases q : I' a with
    | none => rfl
    | some o =>
      rcases g.new a o q with z | z
      · rw [h3] at z
        cases z
      · rw [h2] at z
        cases z
  · exact r.ow.next (fun j d e => ⟨e, rfl⟩) g.i fun J w => ⟨w.h.trans g.h, (fun a o e => by
      cases q : I' a with
      | none => rfl
      | some u =>
        rcases g.new a u q with z | z
        · rw [w.i a o e] at z; cases z
        · rw [w.h a o e] at z; cases z), w.z, w.l, w.mu, w.md⟩
/-- a new address is in no private part -/
theorem Rel.owf (r : Rel K A H0 env σ I H) (g : Grow I H I' H') {p : Addr} (hp : H p = none) : ∀ (j : Nat) (d : Ow), env[j]? = some (Sl.ow d) → ∃ v J, σ[j]? = some (some v) ∧ Own env σ I' H0 H' J ∧ J p = none ∧ RdW K I' J v d := fun j d e => by
  obtain ⟨v, J, h1, w, h3⟩ := r.ow j d e
  have w' : Own env σ I' H0 H' J := ⟨w.h.trans g.h, (fun a o e => by
    cases q : I' a with
    | none => rfl
    | some u =>
      rcases g.new a u q with z | z
      · rw [w.i a o e] at z; cases z
      · rw [w.h a o e] at z; cases z), w.z, w.l, w.mu, w.md⟩
  exact ⟨v, J, h1, w', Evl.fresh_back w.h hp, h3.mono (mrg_mono g.i w'.i)⟩
theorem Rel.set_im (r : Rel K A H0 env σ I H) {i : Nat} {v : V} {d : D} (h : Rd K I v d) : Rel K A H0 (env.set i (Sl.im d)) (σ.set i (some v)) I H := by
  have key : ∀ j, i ≠ j → (env.set i (Sl.im d))[j]? = env[j]? ∧ (σ.set i (some v))[j]? = σ[j]? := fun j hj => ⟨List.getElem?_set_ne hj, List.getElem?_set_ne hj⟩
  refine ⟨r.g, by rw [List.length_set, List.length_set, r.len], fun j e he => ?_, fun j l he => ?_, fun j e he => ?_, fun j k l m a h1 h2 h3 h4 => ?_, fun j ks l he => ?_, fun j k ks ls l m a h1 h2 h3 h4 => ?_, ?_⟩
  · by_cases hj : i = j
    · subst hj
      have hl : i < env.length := by
        have := (List.getElem?_eq_some_iff.mp he).1
        rwa [List.length_set] at this
      rw [List.getElem?_set_self hl] at he
      cases he
      exact ⟨v, List.getElem?_set_self (by rw [r.len]; exact hl), h⟩
    · rw [(key j hj).1] at he
      rw [(key j hj).2]
      exact r.im j e he
  · by_cases hj : i = j
    · subst hj
      have hl : i < env.length := by
        have := (List.getElem?_eq_some_iff.mp he).1
        rwa [List.length_set] at this
      rw [List.getElem?_set_self hl] at he
      cases he
    · rw [(key j hj).1] at he
      rw [(key j hj).2]
      exact r.mu j l he
  · by_cases hj : i = j
    · subst hj
      have hl : i < env.length := by
        have := (List.getElem?_eq_some_iff.mp he).1
        rwa [List.length_set] at this
      rw [List.getElem?_set_self hl] at he
      cases he
    · rw [(key j hj).1] at he
      rw [(key j hj).2]
      exact r.bo j e he
  · have f : ∀ j l, (env.set i (Sl.im d))[j]? = some (Sl.mu l) → i ≠ j := fun j l he hj => by
      subst hj
      have hl : i < env.length := by
        have := (List.getElem?_eq_some_iff.mp he).1
        rwa [List.length_set] at this
      rw [List.getElem?_set_self hl] at he
      cases he
    have n1 := f _ _ h1
    have n2 := f _ _ h2
    rw [(key _ n1).1] at h1
    rw [(key _ n2).1] at h2
    rw [(key _ n1).2] at h3
    rw [(key _ n2).2] at h4
    exact r.ap j k l m a h1 h2 h3 h4
  · by_cases hj : i = j
    · subst hj
      have hl : i < env.length := by
        have := (List.getElem?_eq_some_iff.mp he).1
        rwa [List.length_set] at this
      rw [List.getElem?_set_self hl] at he
      cases he
    · rw [(key j hj).1] at he
      rw [(key j hj).2]
      exact r.md j ks l he
  · have f : ∀ j ks l, (env.set i (Sl.im d))[j]? = some (Sl.md ks l) → i ≠ j := fun j ks l he hj => by
      subst hj
      have hl : i < env.length := by
        have := (List.getElem?_eq_some_iff.mp he).1
        rwa [List.length_set] at this
      rw [List.getElem?_set_self hl] at he
      cases he
    have n1 := f _ _ _ h1
    have n2 := f _ _ _ h2
    rw [(key _ n1).1] at h1
    rw [(key _ n2).1] at h2
    rw [(key _ n1).2] at h3
    rw [(key _ n2).2] at h4
    exact r.apd j k ks ls l m a h1 h2 h3 h4
  · exact r.ow.next (fun j d e => by
      rcases set_get e with ⟨_, z⟩ | ⟨hij, z⟩
      · cases z
      · exact ⟨z, List.getElem?_set_ne hij⟩) (Ex.refl _) fun J w => w.set (fun _ z => nomatch z) (fun _ _ z => nomatch z)
/-- a new list, held by one name alone -/
theorem Rel.set_mu (r : Rel K A H0 env σ I H) {i : Nat} {p : Addr} {vs : List V} {l : List D} (hi : I p = none) (h0 : H0 p = none) (hp : H p = some (.lst vs)) (h : RdA K I vs l)
    (ap : ∀ (j : Nat) (m : List D), env[j]? = some (Sl.mu m) → σ[j]? ≠ some (some (V.ref p))) (ao : ∀ (j : Nat) (d : Ow), env[j]? = some (Sl.ow d) → ∃ v J, σ[j]? = some (some v) ∧ Own env σ I H0 H J ∧ J p = none ∧ RdW K I J v d) : Rel K A H0 (env.set i (Sl.mu l)) (σ.set i (some (.ref p))) I H := by
  have key : ∀ j, i ≠ j → (env.set i (Sl.mu l))[j]? = env[j]? ∧ (σ.set i (some (.ref p)))[j]? = σ[j]? := fun j hj => ⟨List.getElem?_set_ne hj, List.getElem?_set_ne hj⟩
  have slf : ∀ s, (env.set i (Sl.mu l))[i]? = some s → s = Sl.mu l ∧ (σ.set i (some (.ref p)))[i]? = some (some (V.ref p)) := fun s he => by
    have hl : i < env.length := by
      have := (List.getElem?_eq_some_iff.mp he).1
      rwa [List.length_set] at this
    rw [List.getElem?_set_self hl] at he
    exact ⟨(Option.some.inj he).symm, List.getElem?_set_self (by rw [r.len]; exact hl)⟩
  refine ⟨r.g, by rw [List.length_set, List.length_set, r.len], fun j e he => ?_, fun j m he => ?_, fun j e he => ?_, fun j k m n a h1 h2 h3 h4 => ?_, fun j ks m he => ?_, fun j k ks ls m n a h1 h2 h3 h4 => ?_, ?_⟩
  · by_cases hj : i = j
    · subst hj
      cases (slf _ he).1
    · rw [(key j hj).1] at he
      rw [(key j hj).2]
      exact r.im j e he
  · by_cases hj : i = j
    · subst hj
      cases (slf _ he).1
      exact ⟨p, vs, (slf _ he).2, hp, hi, h0, h⟩
    · rw [(key j hj).1] at he
      rw [(key j hj).2]
      exact r.mu j m he
  · by_cases hj : i = j
    · subst hj
      cases (slf _ he).1
    · rw [(key j hj).1] at he
      rw [(key j hj).2]
      exact r.bo j e he
  · by_cases hj : i = j
    · by_cases hk : i = k
      · rw [← hj, ← hk]
      · subst hj
        rw [(slf _ h1).2] at h3
        have ea : p = a := V.ref.inj (Option.some.inj (Option.some.inj h3))
        subst ea
        rw [(key k hk).1] at h2
        rw [(key k hk).2] at h4
        exact absurd h4 (ap k n h2)
    · by_cases hk : i = k
      · subst hk
        rw [(slf _ h2).2] at h4
        have ea : p = a := V.ref.inj (Option.some.inj (Option.some.inj h4))
        subst ea
        rw [(key j hj).1] at h1
        rw [(key j hj).2] at h3
        exact absurd h3 (ap j m h1)
      · rw [(key _ hj).1] at h1
        rw [(key _ hk).1] at h2
        rw [(key _ hj).2] at h3
        rw [(key _ hk).2] at h4
        exact r.ap j k m n a h1 h2 h3 h4
  · by_cases hj : i = j
    · subst hj
      cases (slf _ he).1
    · rw [(key j hj).1] at he
      rw [(key j hj).2]
      exact r.md j ks m he
  · have f : ∀ j ks l2, (env.set i (Sl.mu l))[j]? = some (Sl.md ks l2) → i ≠ j := fun j ks l2 he hj => by
      subst hj
      cases (slf _ he).1
    have n1 := f _ _ _ h1
    have n2 := f _ _ _ h2
    rw [(key _ n1).1] at h1
    rw [(key _ n2).1] at h2
    rw [(key _ n1).2] at h3
    rw [(key _ n2).2] at h4
    exact r.apd j k ks ls m n a h1 h2 h3 h4
  · exact fun j d e => by
      rcases set_get e with ⟨_, z⟩ | ⟨hij, z⟩
      · cases z
      · obtain ⟨v, J, q1, q2, q3, q4⟩ := ao j d z
        refine ⟨v, J, by rw [List.getElem?_set_ne hij]; exact q1, ⟨q2.h, q2.i, q2.z, q2.l, fun k m a e s => ?_, fun k ks m a e s => ?_⟩, q4⟩
        · by_cases c : i = k
          · subst c
            rw [(slf _ e).2] at s
            have ea : p = a := V.ref.inj (Option.some.inj (Option.some.inj s))
            rw [← ea]; exact q3
          · rw [(key k c).1] at e
            rw [(key k c).2] at s
            exact q2.mu k m a e s
        · by_cases c : i = k
          · subst c
            cases (slf _ e).1
          · rw [(key k c).1] at e
            rw [(key k c).2] at s
            exact q2.md k ks m a e s
/-- the list of one name changed -/
theorem Rel.chg (r : Rel K A H0 env σ I H) {i : Nat} {a : Addr} {l m : List D} {ws : List V} (he : env[i]? = some (Sl.mu l)) (hs : σ[i]? = some (some (V.ref a))) (h : RdA K I ws m) : Rel K A H0 (env.set i (Sl.mu m)) σ I (upd H a (.lst ws)) := by
  obtain ⟨a', vs, h1, h2, h3, h4, h5⟩ := r.mu i l he
  have ea : a' = a := V.ref.inj (Option.some.inj (Option.some.inj (h1.symm.trans hs)))
  subst ea
  have hl : i < env.length := (List.getElem?_eq_some_iff.mp he).1
  have key : ∀ j, i ≠ j → (env.set i (Sl.mu m))[j]? = env[j]? := fun j hj => List.getElem?_set_ne hj
  have slf : (env.set i (Sl.mu m))[i]? = some (Sl.mu m) := List.getElem?_set_self hl
  have ie : Ex I (upd H a' (.lst ws)) := fun b o q => by
    by_cases z : b = a'
    · subst z
      rw [h3] at q
      cases q
    · rw [upd_ne z]
      exact r.g.ih b o q
  refine ⟨⟨r.g.i, fun b o q => ?_, ie, r.g.new⟩, by rw [List.length_set, r.len], fun j e hj => ?_, fun j n hj => ?_, fun j e hj => ?_, fun j k n o b q1 q2 q3 q4 => ?_, fun j ks n hj => ?_, fun j k ks ls n o b q1 q2 q3 q4 => ?_, ?_⟩
  · by_cases z : b = a'
    · subst z
      rw [h4] at q
      cases q
    · rw [upd_ne z]
      exact r.g.h b o q
  · by_cases z : i = j
    · subst z
      rw [slf] at hj
      cases hj
    · rw [key j z] at hj
      exact r.im j e hj
  · by_cases z : i = j
    · subst z
      rw [slf] at hj
      cases hj
      exact ⟨a', ws, h1, upd_same, h3, h4, h⟩
    · rw [key j z] at hj
      obtain ⟨b, us, p1, p2, p3, p4, p5⟩ := r.mu j n hj
      refine ⟨b, us, p1, ?_, p3, p4, p5⟩
      rw [upd_ne (fun e => z (r.ap i j l n a' he hj h1 (by rw [← e]; exact p1)))]
      exact p2
  · by_cases z : i = j
    · subst z
      rw [slf] at hj
      cases hj
    · rw [key j z] at hj
      exact r.bo j e hj
  · have f : ∀ j n, (env.set i (Sl.mu m))[j]? = some (Sl.mu n) → ∃ n', env[j]? = some (Sl.mu n') := fun j n hj => by
      by_cases z : i = j
      · subst z
        exact ⟨l, he⟩
      · rw [key j z] at hj
        exact ⟨n, hj⟩
    obtain ⟨n', e1⟩ := f j n q1
    obtain ⟨o', e2⟩ := f k o q2
    exact r.ap j k n' o' b e1 e2 q3 q4
  · by_cases z : i = j
    · subst z
      rw [slf] at hj
      cases hj
    · rw [key j z] at hj
      obtain ⟨b, us, p1, p2, p3, p4, p5, p6⟩ := r.md j ks n hj
      refine ⟨b, us, p1, ?_, p3, p4, p5, p6⟩
      have nb : b ≠ a' := fun e => by rw [e, h2] at p2; cases p2
      rw [upd_ne nb]
      exact p2
  · have f : ∀ j ks n, (env.set i (Sl.mu m))[j]? = some (Sl.md ks n) → env[j]? = some (Sl.md ks n) := fun j ks n hj => by
      by_cases z : i = j
      · subst z
        rw [slf] at hj
        cases hj
      · rw [key j z] at hj
        exact hj
    exact r.apd j k ks ls n o b (f j ks n q1) (f k ls o q2) q3 q4
  · exact r.ow.next (fun j d e => by
      rcases set_get e with ⟨_, z⟩ | ⟨hij, z⟩
      · cases z
      · exact ⟨z, rfl⟩) (Ex.refl _) fun J w => (w.less (fun j n e => by
        rcases set_get e with ⟨z, _⟩ | ⟨_, z⟩
        · subst z; exact ⟨⟨l, he⟩, rfl⟩
        · exact ⟨⟨n, z⟩, rfl⟩) (fun j ks n e => by
        rcases set_get e with ⟨_, z⟩ | ⟨_, z⟩
        · cases z
        · exact ⟨⟨ks, n, z⟩, rfl⟩)).heap (ex_upd w.h (w.mu i l a' he h1))
/-- a list that is changed no more -/
theorem Rel.freezeL (r : Rel K A H0 env σ I H) {i : Nat} {l : List D} (he : env[i]? = some (Sl.mu l)) : ∃ I', Ex I I' ∧ (∀ b o, I' b = some o → I b = some o ∨ ∃ us, o = .lst us) ∧ Rel K A H0 (env.set i (Sl.im (.lst l))) σ I' H := by
  obtain ⟨a, vs, h1, h2, h3, h4, h5⟩ := r.mu i l he
  have ie : Ex I (upd I a (.lst vs)) := Ex.new h3
  have hl : i < env.length := (List.getElem?_eq_some_iff.mp he).1
  have key : ∀ j, i ≠ j → (env.set i (Sl.im (.lst l)))[j]? = env[j]? := fun j hj => List.getElem?_set_ne hj
  have slf : (env.set i (Sl.im (.lst l)))[i]? = some (Sl.im (.lst l)) := List.getElem?_set_self hl
  refine ⟨upd I a (.lst vs), ie, fun b o q => ?_, ⟨⟨r.g.i.trans ie, r.g.h, fun b o q => ?_, fun b o q => ?_⟩, by rw [List.length_set, r.len], fun j e hj => ?_, fun j n hj => ?_, fun j e hj => ?_, fun j k n o b q1 q2 q3 q4 => ?_, fun j ks n hj => ?_, fun j k ks ls n o b q1 q2 q3 q4 => ?_, ?_⟩⟩
  · by_cases z : b = a
    · subst z
      rw [upd_same] at q
      exact .inr ⟨vs, (Option.some.inj q).symm⟩
    · rw [upd_ne z] at q
      exact .inl q
  · by_cases z : b = a
    · subst z
      rw [upd_same] at q
      rw [← q]
      exact h2
    · rw [upd_ne z] at q
      exact r.g.ih b o q
  · by_cases z : b = a
    · subst z
      exact .inr h4
    · rw [upd_ne z] at q
      exact r.g.new b o q
  · by_cases z : i = j
    · subst z
      rw [slf] at hj
      cases hj
      exact ⟨_, h1, .lst upd_same (h5.mono ie)⟩
    · rw [key j z] at hj
      obtain ⟨v, p1, p2⟩ := r.im j e hj
      exact ⟨v, p1, p2.mono ie⟩
  · by_cases z : i = j
    · subst z
      rw [slf] at hj
      cases hj
    · rw [key j z] at hj
      obtain ⟨b, us, p1, p2, p3, p4, p5⟩ := r.mu j n hj
      refine ⟨b, us, p1, p2, ?_, p4, p5.mono ie⟩
      rw [upd_ne (fun e => z (r.ap i j l n a he hj h1 (by rw [← e]; exact p1)))]
      exact p3
  · by_cases z : i = j
    · subst z
      rw [slf] at hj
      cases hj
    · rw [key j z] at hj
      exact r.bo j e hj
  · have f : ∀ j n, (env.set i (Sl.im (.lst l)))[j]? = some (Sl.mu n) → env[j]? = some (Sl.mu n) := fun j n hj => by
      by_cases z : i = j
      · subst z
        rw [slf] at hj
        cases hj
      · rw [key j z] at hj
        exact hj
    exact r.ap j k n o b (f j n q1) (f k o q2) q3 q4
  · by_cases z : i = j
    · subst z
      rw [slf] at hj
      cases hj
    · rw [key j z] at hj
      obtain ⟨b, us, p1, p2, p3, p4, p5, p6⟩ := r.md j ks n hj
      refine ⟨b, us, p1, p2, ?_, p4, p5, p6.mono ie⟩
      have nb : b ≠ a := fun e => by rw [e, h2] at p2; cases p2
      rw [upd_ne nb]
      exact p3
  · have f : ∀ j ks n, (env.set i (Sl.im (.lst l)))[j]? = some (Sl.md ks n) → env[j]? = some (Sl.md ks n) := fun j ks n hj => by
      by_cases z : i = j
      · subst z
        rw [slf] at hj
        cases hj
      · rw [key j z] at hj
        exact hj
    exact r.apd j k ks ls n o b (f j ks n q1) (f k ls o q2) q3 q4
  · exact r.ow.next (fun j d e => by
      rcases set_get e with ⟨_, z⟩ | ⟨hij, z⟩
      · cases z
      · exact ⟨z, rfl⟩) ie fun J w => (fun w' => ⟨w'.h, fun b o q => by
        have nb : b ≠ a := fun e => by rw [e, w.mu i l a he h1] at q; cases q
        rw [upd_ne nb]
        exact w.i b o q, w'.z, w'.l, w'.mu, w'.md⟩) (w.less (fun j n e => by
        rcases set_get e with ⟨_, z⟩ | ⟨_, z⟩
        · cases z
        · exact ⟨⟨n, z⟩, rfl⟩) (fun j ks n e => by
        rcases set_get e with ⟨_, z⟩ | ⟨_, z⟩
        · cases z
        · exact ⟨⟨ks, n, z⟩, rfl⟩))
theorem Rel.freeze (r : Rel K A H0 env σ I H) {i : Nat} {l : List D} (he : env[i]? = some (Sl.mu l)) : ∃ I', Ex I I' ∧ Rel K A H0 (env.set i (Sl.im (.lst l))) σ I' H :=
  let ⟨I', e, _, h⟩ := r.freezeL he
  ⟨I', e, h⟩
/-- names forgotten -/
theorem Rel.less {env' : En} {σ' : L2.St} (r : Rel K A H0 env σ I H) (hl : env'.length = env.length) (hs : σ'.length = σ.length) (h : ∀ (i : Nat) (s : Sl), env'[i]? = some s → s = Sl.no ∨ (env[i]? = some s ∧ σ'[i]? = σ[i]?)) : Rel K A H0 env' σ' I H := by
  refine ⟨r.g, by rw [hs, hl, r.len], fun j e hj => ?_, fun j n hj => ?_, fun j e hj => ?_, fun j k n o b q1 q2 q3 q4 => ?_, fun j ks n hj => ?_, fun j k ks ls n o b q1 q2 q3 q4 => ?_, ?_⟩
  · rcases h j _ hj with z | ⟨z, y⟩
    · cases z
    · rw [y]
      exact r.im j e z
  · rcases h j _ hj with z | ⟨z, y⟩
    · cases z
    · rw [y]
      exact r.mu j n z
  · rcases h j _ hj with z | ⟨z, y⟩
    · cases z
    · rw [y]
      exact r.bo j e z
  · rcases h j _ q1 with z | ⟨z, y⟩
    · cases z
    · rcases h k _ q2 with x | ⟨x, w⟩
      · cases x
      · rw [y] at q3
        rw [w] at q4
        exact r.ap j k n o b z x q3 q4
  · rcases h j _ hj with z | ⟨z, y⟩
    · cases z
    · rw [y]
      exact r.md j ks n z
  · rcases h j _ q1 with z | ⟨z, y⟩
    · cases z
    · rcases h k _ q2 with x | ⟨x, w⟩
      · cases x
      · rw [y] at q3
        rw [w] at q4
        exact r.apd j k ks ls n o b z x q3 q4
  · exact r.ow.next (fun j d e => by
      rcases h j _ e with z | ⟨z, y⟩
      · cases z
      · exact ⟨z, y⟩) (Ex.refl _) fun J w => w.less (fun j n e => by
      rcases h j _ e with z | ⟨z, y⟩
      · cases z
      · exact ⟨⟨n, z⟩, y⟩) (fun j ks n e => by
      rcases h j _ e with z | ⟨z, y⟩
      · cases z
      · exact ⟨⟨ks, n, z⟩, y⟩)
/-- a new dict, held by one name alone -/
theorem Rel.set_md (r : Rel K A H0 env σ I H) {i : Nat} {p : Addr} {kvs : List (Key × V)} {ks : List Int} {l : List D} (hi : I p = none) (h0 : H0 p = none) (hp : H p = some (.dK kvs)) (hk : kvs.map (·.1) = ks.map Sum.inl) (h : RdA K I (kvs.map (·.2)) l)
    (ap : ∀ (j : Nat) (ls : List Int) (m : List D), env[j]? = some (Sl.md ls m) → σ[j]? ≠ some (some (V.ref p))) (ao : ∀ (j : Nat) (d : Ow), env[j]? = some (Sl.ow d) → ∃ v J, σ[j]? = some (some v) ∧ Own env σ I H0 H J ∧ J p = none ∧ RdW K I J v d) : Rel K A H0 (env.set i (Sl.md ks l)) (σ.set i (some (.ref p))) I H := by
  have key : ∀ j, i ≠ j → (env.set i (Sl.md ks l))[j]? = env[j]? ∧ (σ.set i (some (.ref p)))[j]? = σ[j]? := fun j hj => ⟨List.getElem?_set_ne hj, List.getElem?_set_ne hj⟩
  have slf : ∀ s, (env.set i (Sl.md ks l))[i]? = some s → s = Sl.md ks l ∧ (σ.set i (some (.ref p)))[i]? = some (some (V.ref p)) := fun s he => by
    have hl : i < env.length := by
      have := (List.getElem?_eq_some_iff.mp he).1
      rwa [List.length_set] at this
    rw [List.getElem?_set_self hl] at he
    exact ⟨(Option.some.inj he).symm, List.getElem?_set_self (by rw [r.len]; exact hl)⟩
  refine ⟨r.g, by rw [List.length_set, List.length_set, r.len], fun j e he => ?_, fun j m he => ?_, fun j e he => ?_, fun j k m n a h1 h2 h3 h4 => ?_, fun j ls m he => ?_, fun j k k1 k2 m n a h1 h2 h3 h4 => ?_, ?_⟩
  · by_cases hj : i = j
    · subst hj
      cases (slf _ he).1
    · rw [(key j hj).1] at he
      rw [(key j hj).2]
      exact r.im j e he
  · by_cases hj : i = j
    · subst hj
      cases (slf _ he).1
    · rw [(key j hj).1] at he
      rw [(key j hj).2]
      exact r.mu j m he
  · by_cases hj : i = j
    · subst hj
      cases (slf _ he).1
    · rw [(key j hj).1] at he
      rw [(key j hj).2]
      exact r.bo j e he
  · have f : ∀ j l2, (env.set i (Sl.md ks l))[j]? = some (Sl.mu l2) → i ≠ j := fun j l2 he hj => by
      subst hj
      cases (slf _ he).1
    have n1 := f _ _ h1
    have n2 := f _ _ h2
    rw [(key _ n1).1] at h1
    rw [(key _ n2).1] at h2
    rw [(key _ n1).2] at h3
    rw [(key _ n2).2] at h4
    exact r.ap j k m n a h1 h2 h3 h4
  · by_cases hj : i = j
    · subst hj
      cases (slf _ he).1
      exact ⟨p, kvs, (slf _ he).2, hp, hi, h0, hk, h⟩
    · rw [(key j hj).1] at he
      rw [(key j hj).2]
      exact r.md j ls m he
  · by_cases hj : i = j
    · by_cases hk2 : i = k
      · rw [← hj, ← hk2]
      · subst hj
        rw [(slf _ h1).2] at h3
        have ea : p = a := V.ref.inj (Option.some.inj (Option.some.inj h3))
        subst ea
        rw [(key k hk2).1] at h2
        rw [(key k hk2).2] at h4
        exact absurd h4 (ap k k2 n h2)
    · by_cases hk2 : i = k
      · subst hk2
        rw [(slf _ h2).2] at h4
        have ea : p = a := V.ref.inj (Option.some.inj (Option.some.inj h4))
        subst ea
        rw [(key j hj).1] at h1
        rw [(key j hj).2] at h3
        exact absurd h3 (ap j k1 m h1)
      · rw [(key _ hj).1] at h1
        rw [(key _ hk2).1] at h2
        rw [(key _ hj).2] at h3
        rw [(key _ hk2).2] at h4
        exact r.apd j k k1 k2 m n a h1 h2 h3 h4
  · exact fun j d e => by
      rcases set_get e with ⟨_, z⟩ | ⟨hij, z⟩
      · cases z
      · obtain ⟨v, J, q1, q2, q3, q4⟩ := ao j d z
        refine ⟨v, J, by rw [List.getElem?_set_ne hij]; exact q1, ⟨q2.h, q2.i, q2.z, q2.l, fun k m a e s => ?_, fun k ks m a e s => ?_⟩, q4⟩
        · by_cases c : i = k
          · subst c
            cases (slf _ e).1
          · rw [(key k c).1] at e
            rw [(key k c).2] at s
            exact q2.mu k m a e s
        · by_cases c : i = k
          · subst c
            rw [(slf _ e).2] at s
            have ea : p = a := V.ref.inj (Option.some.inj (Option.some.inj s))
            rw [← ea]; exact q3
          · rw [(key k c).1] at e
            rw [(key k c).2] at s
            exact q2.md k ks m a e s
/-- the dict of one name changed -/
theorem Rel.chgD (r : Rel K A H0 env σ I H) {i : Nat} {a : Addr} {ks ks' : List Int} {l m : List D} {kvs : List (Key × V)} (he : env[i]? = some (Sl.md ks l)) (hs : σ[i]? = some (some (V.ref a))) (hk : kvs.map (·.1) = ks'.map Sum.inl) (h : RdA K I (kvs.map (·.2)) m) : Rel K A H0 (env.set i (Sl.md ks' m)) σ I (upd H a (.dK kvs)) := by
  obtain ⟨a', vs, h1, h2, h3, h4, h5, h6⟩ := r.md i ks l he
  have ea : a' = a := V.ref.inj (Option.some.inj (Option.some.inj (h1.symm.trans hs)))
  subst ea
  have hl : i < env.length := (List.getElem?_eq_some_iff.mp he).1
  have key : ∀ j, i ≠ j → (env.set i (Sl.md ks' m))[j]? = env[j]? := fun j hj => List.getElem?_set_ne hj
  have slf : (env.set i (Sl.md ks' m))[i]? = some (Sl.md ks' m) := List.getElem?_set_self hl
  have ie : Ex I (upd H a' (.dK kvs)) := fun b o q => by
    by_cases z : b = a'
    · subst z
      rw [h3] at q
      cases q
    · rw [upd_ne z]
      exact r.g.ih b o q
  refine ⟨⟨r.g.i, fun b o q => ?_, ie, r.g.new⟩, by rw [List.length_set, r.len], fun j e hj => ?_, fun j n hj => ?_, fun j e hj => ?_, fun j k n o b q1 q2 q3 q4 => ?_, fun j ls n hj => ?_, fun j k k1 k2 n o b q1 q2 q3 q4 => ?_, ?_⟩
  · by_cases z : b = a'
    · subst z
      rw [h4] at q
      cases q
    · rw [upd_ne z]
      exact r.g.h b o q
  · by_cases z : i = j
    · subst z
      rw [slf] at hj
      cases hj
    · rw [key j z] at hj
      exact r.im j e hj
  · by_cases z : i = j
    · subst z
      rw [slf] at hj
      cases hj
    · rw [key j z] at hj
      obtain ⟨b, us, p1, p2, p3, p4, p5⟩ := r.mu j n hj
      refine ⟨b, us, p1, ?_, p3, p4, p5⟩
      have nb : b ≠ a' := fun e => by rw [e, h2] at p2; cases p2
      rw [upd_ne nb]
      exact p2
  · by_cases z : i = j
    · subst z
      rw [slf] at hj
      cases hj
    · rw [key j z] at hj
      exact r.bo j e hj
  · have f : ∀ j n, (env.set i (Sl.md ks' m))[j]? = some (Sl.mu n) → env[j]? = some (Sl.mu n) := fun j n hj => by
      by_cases z : i = j
      · subst z
        rw [slf] at hj
        cases hj
      · rw [key j z] at hj
        exact hj
    exact r.ap j k n o b (f j n q1) (f k o q2) q3 q4
  · by_cases z : i = j
    · subst z
      rw [slf] at hj
      cases hj
      exact ⟨a', kvs, h1, upd_same, h3, h4, hk, h⟩
    · rw [key j z] at hj
      obtain ⟨b, us, p1, p2, p3, p4, p5, p6⟩ := r.md j ls n hj
      refine ⟨b, us, p1, ?_, p3, p4, p5, p6⟩
      rw [upd_ne (fun e => z (r.apd i j ks ls l n a' he hj h1 (by rw [← e]; exact p1)))]
      exact p2
  · have f : ∀ j k1 n, (env.set i (Sl.md ks' m))[j]? = some (Sl.md k1 n) → ∃ k2 n', env[j]? = some (Sl.md k2 n') := fun j k1 n hj => by
      by_cases z : i = j
      · subst z
        exact ⟨ks, l, he⟩
      · rw [key j z] at hj
        exact ⟨k1, n, hj⟩
    obtain ⟨k1', n', e1⟩ := f j k1 n q1
    obtain ⟨k2', o', e2⟩ := f k k2 o q2
    exact r.apd j k k1' k2' n' o' b e1 e2 q3 q4
  · exact r.ow.next (fun j d e => by
      rcases set_get e with ⟨_, z⟩ | ⟨hij, z⟩
      · cases z
      · exact ⟨z, rfl⟩) (Ex.refl _) fun J w => (w.less (fun j n e => by
        rcases set_get e with ⟨_, z⟩ | ⟨_, z⟩
        · cases z
        · exact ⟨⟨n, z⟩, rfl⟩) (fun j k1 n e => by
        rcases set_get e with ⟨z, _⟩ | ⟨_, z⟩
        · subst z; exact ⟨⟨ks, l, he⟩, rfl⟩
        · exact ⟨⟨k1, n, z⟩, rfl⟩)).heap (ex_upd w.h (w.md i ks l a' he h1))
/-- a dict that is changed no more: the state of the heap tells its object -/
theorem Rel.freezeD (r : Rel K A H0 env σ I H) {i : Nat} {a : Addr} {ks : List Int} {l : List D} {kvs : List (Key × V)} (ob : Obj) (he : env[i]? = some (Sl.md ks l)) (hs : σ[i]? = some (some (V.ref a))) (hH : H a = some (.dK kvs)) (h3 : I a = none) (h4 : H0 a = none) (hk : kvs.map (·.1) = ks.map Sum.inl) (h : RdA K I (kvs.map (·.2)) l) :
    ∃ I', Ex I I' ∧ Rel K A H0 (env.set i (Sl.im (.dct ks l))) σ I' (upd H a (.frz ob (.dK kvs))) := by
  have ie : Ex I (upd I a (.frz ob (.dK kvs))) := Ex.new h3
  have hl : i < env.length := (List.getElem?_eq_some_iff.mp he).1
  have key : ∀ j, i ≠ j → (env.set i (Sl.im (.dct ks l)))[j]? = env[j]? := fun j hj => List.getElem?_set_ne hj
  have slf : (env.set i (Sl.im (.dct ks l)))[i]? = some (Sl.im (.dct ks l)) := List.getElem?_set_self hl
  refine ⟨upd I a (.frz ob (.dK kvs)), ie, ⟨⟨r.g.i.trans ie, fun b o q => ?_, fun b o q => ?_, fun b o q => ?_⟩, by rw [List.length_set, r.len], fun j e hj => ?_, fun j n hj => ?_, fun j e hj => ?_, fun j k n o b q1 q2 q3 q4 => ?_, fun j ls n hj => ?_, fun j k k1 k2 n o b q1 q2 q3 q4 => ?_, ?_⟩⟩
  · by_cases z : b = a
    · subst z
      rw [h4] at q
      cases q
    · rw [upd_ne z]
      exact r.g.h b o q
  · by_cases z : b = a
    · subst z
      rw [upd_same] at q ⊢
      exact q
    · rw [upd_ne z] at q ⊢
      exact r.g.ih b o q
  · by_cases z : b = a
    · subst z
      exact .inr h4
    · rw [upd_ne z] at q
      exact r.g.new b o q
  · by_cases z : i = j
    · subst z
      rw [slf] at hj
      cases hj
      exact ⟨_, hs, .dct upd_same hk (h.mono ie)⟩
    · rw [key j z] at hj
      obtain ⟨v, p1, p2⟩ := r.im j e hj
      exact ⟨v, p1, p2.mono ie⟩
  · by_cases z : i = j
    · subst z
      rw [slf] at hj
      cases hj
    · rw [key j z] at hj
      obtain ⟨b, us, p1, p2, p3, p4, p5⟩ := r.mu j n hj
      have nb : b ≠ a := fun e => by rw [e, hH] at p2; cases p2
      exact ⟨b, us, p1, by rw [upd_ne nb]; exact p2, by rw [upd_ne nb]; exact p3, p4, p5.mono ie⟩
  · by_cases z : i = j
    · subst z
      rw [slf] at hj
      cases hj
    · rw [key j z] at hj
      exact r.bo j e hj
  · have f : ∀ j n, (env.set i (Sl.im (.dct ks l)))[j]? = some (Sl.mu n) → env[j]? = some (Sl.mu n) := fun j n hj => by
      by_cases z : i = j
      · subst z
        rw [slf] at hj
        cases hj
      · rw [key j z] at hj
        exact hj
    exact r.ap j k n o b (f j n q1) (f k o q2) q3 q4
  · by_cases z : i = j
    · subst z
      rw [slf] at hj
      cases hj
    · rw [key j z] at hj
      obtain ⟨b, us, p1, p2, p3, p4, p5, p6⟩ := r.md j ls n hj
      have nb : b ≠ a := fun e => z (r.apd i j ks ls l n a he hj hs (by rw [← e]; exact p1))
      exact ⟨b, us, p1, by rw [upd_ne nb]; exact p2, by rw [upd_ne nb]; exact p3, p4, p5, p6.mono ie⟩
  · have f : ∀ j k1 n, (env.set i (Sl.im (.dct ks l)))[j]? = some (Sl.md k1 n) → env[j]? = some (Sl.md k1 n) := fun j k1 n hj => by
      by_cases z : i = j
      · subst z
        rw [slf] at hj
        cases hj
      · rw [key j z] at hj
        exact hj
    exact r.apd j k k1 k2 n o b (f j k1 n q1) (f k k2 o q2) q3 q4
  · exact r.ow.next (fun j d e => by
      rcases set_get e with ⟨_, z⟩ | ⟨hij, z⟩
      · cases z
      · exact ⟨z, rfl⟩) ie fun J w => (fun w' => ⟨ex_upd w.h (w.md i ks l a he hs), fun b o q => by
        have nb : b ≠ a := fun e => by rw [e, w.md i ks l a he hs] at q; cases q
        rw [upd_ne nb]
        exact w.i b o q, w'.z, w'.l, w'.mu, w'.md⟩) (w.less (fun j n e => by
        rcases set_get e with ⟨_, z⟩ | ⟨_, z⟩
        · cases z
        · exact ⟨⟨n, z⟩, rfl⟩) (fun j k1 n e => by
        rcases set_get e with ⟨_, z⟩ | ⟨_, z⟩
        · cases z
        · exact ⟨⟨k1, n, z⟩, rfl⟩))
end
end BW
/-! BCore2: what an expression tells, as a function of the environment. -/
namespace BW
open PySem PySem.Spec PyProof.Rows L2
open Evl (Ex Ex.refl Ex.trans Ex.new ex_rd ex_l ex_t)

/-! ### functions of environments -/
abbrev F := En → R D
def fI (i : Nat) : F := fun env => match env[i]? with
  | some (.im d) => .ok d
  | _ => .no
def fL (i : Nat) : F := fun env => match env[i]? with
  | some (.im d) => .ok d
  | some (.bo d) => .ok d
  | some (.mu l) => .ok (.lst l)
  | some (.ow (.d d)) => .ok d
  | _ => .no
def fC (d : D) : F := fun _ => .ok d
def f1 (g : D → R D) (a : F) : F := fun env => (a env).bind g
def f2 (g : D → D → R D) (a b : F) : F := fun env => (a env).bind fun x => (b env).bind fun y => g x y
def fIf (t a b : F) : F := fun env => (t env).bind fun
  | .bl c => cond c (a env) (b env)
  | _ => .no
/-- a truth value, or nothing -/
def blR (d : D) : R D := match d with
  | .bl c => .ok (.bl c)
  | _ => .no
def fAnd (a b : F) : F := fun env => (a env).bind fun
  | .bl c => cond c ((b env).bind blR) (.ok (.bl false))
  | _ => .no
def fOr (a b : F) : F := fun env => (a env).bind fun
  | .bl c => cond c (.ok (.bl true)) ((b env).bind blR)
  | _ => .no
def notD : D → R D
  | .bl b => .ok (.bl (!b))
  | _ => .no
def scD (d : D) : R D := match d with
  | .non => .ok .non
  | .bl b => .ok (.bl b)
  | .int i => .ok (.int i)
  | .str z => .ok (.str z)
  | _ => .no
abbrev FA := En → R (List D)
def aNil : FA := fun _ => .ok []
def aCons (a : F) (b : FA) : FA := fun env => (a env).bind fun x => (b env).bind fun y => .ok (x :: y)
def fA (g : List D → R D) (a : FA) : F := fun env => (a env).bind g

/-! ### what follows -/
def ErrIs (K : PySem.W.Frag) (c : Nat) (p : List D) (cls : Value) (od : Option Addr) (H : Hp) : Prop :=
  cls = .ref (CL K c) ∧ match p with
    | [] => od = none
    | [d] => ∃ a v, od = some a ∧ d.sc = some v ∧ H a = some (.xd [(xf c, v)])
    | _ => False
def PostE (K : PySem.W.Frag) (W : WX) (σ : L2.St) (I H : Hp) (r : R D) (Q : VK) : Prop := match r with
  | .ok d => ∀ v I' H', Grow I H I' H' → Rd K I' v d → Q v H'
  | .er c p => ∀ cls od I' H', Grow I H I' H' → ErrIs K c p cls od I' → W cls od σ H'
  | .no => False
def PostB (K : PySem.W.Frag) (W : WX) (σ : L2.St) (I H : Hp) (r : R D) (Q : VK) : Prop := match r with
  | .ok d => ∀ v I' H', Grow I H I' H' → Rd K H' v d → Q v H'
  | .er c p => ∀ cls od I' H', Grow I H I' H' → ErrIs K c p cls od I' → W cls od σ H'
  | .no => False
def PostC (K : PySem.W.Frag) (W : WX) (σ : L2.St) (I H : Hp) (r : R D) (Q : VK) : Prop := match r with
  | .ok (.lst ds) => ∀ a vs I' H', Grow I H I' H' → H' a = some (.lst vs) → RdA K I' vs ds → Q (.ref a) H'
  | .er c p => ∀ cls od I' H', Grow I H I' H' → ErrIs K c p cls od I' → W cls od σ H'
  | _ => False
def PostF (K : PySem.W.Frag) (W : WX) (σ : L2.St) (I H : Hp) (r : R D) (Q : VK) : Prop := match r with
  | .ok (.lst ds) => ∀ a vs I' H', Grow I H I' H' → H a = none → I' a = none → H' a = some (.lst vs) → RdA K I' vs ds → Q (.ref a) H'
  | .er c p => ∀ cls od I' H', Grow I H I' H' → ErrIs K c p cls od I' → W cls od σ H'
  | _ => False
def PostT (K : PySem.W.Frag) (W : WX) (σ : L2.St) (I H : Hp) (r : R D) (Q : Bool → Hp → Prop) : Prop := match r with
  | .ok (.bl b) => ∀ I' H', Grow I H I' H' → Q b H'
  | .er c p => ∀ cls od I' H', Grow I H I' H' → ErrIs K c p cls od I' → W cls od σ H'
  | _ => False
/-- arguments: true: told in the part that stays -/
inductive ArgsOk (K : PySem.W.Frag) (I H : Hp) : List Bool → List V → List D → Prop
  | nil : ArgsOk K I H [] [] []
  | st {v d fl vs ds} : Rd K I v d → ArgsOk K I H fl vs ds → ArgsOk K I H (true :: fl) (v :: vs) (d :: ds)
  | lo {v d fl vs ds} : Rd K H v d → ArgsOk K I H fl vs ds → ArgsOk K I H (false :: fl) (v :: vs) (d :: ds)
def PostA (K : PySem.W.Frag) (W : WX) (σ : L2.St) (fl : List Bool) (I H : Hp) (r : R (List D)) (Q : List V → Hp → Prop) : Prop := match r with
  | .ok ds => ∀ vs I' H', Grow I H I' H' → ArgsOk K I' H' fl vs ds → Q vs H'
  | .er c p => ∀ cls od I' H', Grow I H I' H' → ErrIs K c p cls od I' → W cls od σ H'
  | .no => False
section
variable {K : PySem.W.Frag} {W : WX} {σ : L2.St} {I H I1 H1 : Hp} {fl : List Bool}
theorem ArgsOk.grow (g : Grow I H I1 H1) : ∀ {fl : List Bool} {vs : List V} {ds : List D}, ArgsOk K I H fl vs ds → ArgsOk K I1 H1 fl vs ds
  | _, _, _, .nil => .nil
  | _, _, _, .st h q => .st (h.mono g.i) (ArgsOk.grow g q)
  | _, _, _, .lo h q => .lo (h.mono g.h) (ArgsOk.grow g q)
theorem ArgsOk.length : ∀ {fl : List Bool} {vs : List V} {ds : List D}, ArgsOk K I H fl vs ds → vs.length = fl.length
  | _, _, _, .nil => rfl
  | _, _, _, .st h q => congrArg (· + 1) (ArgsOk.length q)
  | _, _, _, .lo h q => congrArg (· + 1) (ArgsOk.length q)
theorem PostE.grow {r : R D} {Q : VK} (g : Grow I H I1 H1) (h : PostE K W σ I H r Q) : PostE K W σ I1 H1 r Q := by
  cases r with
  | ok d => exact fun v I' H' g' q => h v I' H' (g.trans g') q
  | er c p => exact fun cls od I' H' g' q => h cls od I' H' (g.trans g') q
  | no => exact h
theorem PostE.imp {r : R D} {Q Q' : VK} (h : PostE K W σ I H r Q) (k : ∀ v I' H', Grow I H I' H' → Q v H' → Q' v H') : PostE K W σ I H r Q' := by
  cases r with
  | ok d => exact fun v I' H' g' q => k v I' H' g' (h v I' H' g' q)
  | er c p => exact h
  | no => exact h
end

/-! ### readings and judgements -/
def rdE (K : PySem.W.Frag) (W : WX) (A H0 : Hp) (f : F) : TE := fun σ H Q => ∃ env I, Rel K A H0 env σ I H ∧ PostE K W σ I H (f env) Q
def rdB (K : PySem.W.Frag) (W : WX) (A H0 : Hp) (f : F) : TE := fun σ H Q => ∃ env I, Rel K A H0 env σ I H ∧ PostB K W σ I H (f env) Q
def rdC (K : PySem.W.Frag) (W : WX) (A H0 : Hp) (f : F) : TE := fun σ H Q => ∃ env I, Rel K A H0 env σ I H ∧ PostC K W σ I H (f env) Q
def rdF (K : PySem.W.Frag) (W : WX) (A H0 : Hp) (f : F) : TE := fun σ H Q => ∃ env I, Rel K A H0 env σ I H ∧ PostF K W σ I H (f env) Q
def rdT (K : PySem.W.Frag) (W : WX) (A H0 : Hp) (f : F) : TT := fun σ H Q => ∃ env I, Rel K A H0 env σ I H ∧ PostT K W σ I H (f env) Q
def rdA (K : PySem.W.Frag) (W : WX) (A H0 : Hp) (fl : List Bool) (f : FA) : TA := fun σ H Q => ∃ env I, Rel K A H0 env σ I H ∧ PostA K W σ fl I H (f env) Q
/-- strict | loose | a list's content | a new list | a test | arguments -/
def VE (X : Cx) (W : WX) (A H0 : Hp) (e : Expr) (f : F) : Prop := PE X e (rdE X.K W A H0 f)
def VB (X : Cx) (W : WX) (A H0 : Hp) (e : Expr) (f : F) : Prop := PE X e (rdB X.K W A H0 f)
def VL (X : Cx) (W : WX) (A H0 : Hp) (e : Expr) (f : F) : Prop := PE X e (rdC X.K W A H0 f)
def VF (X : Cx) (W : WX) (A H0 : Hp) (e : Expr) (f : F) : Prop := PE X e (rdF X.K W A H0 f)
def VT (X : Cx) (W : WX) (A H0 : Hp) (e : Expr) (f : F) : Prop := PT X e (rdT X.K W A H0 f)
def VW (X : Cx) (W : WX) (A H0 : Hp) (e : Expr) (f : F) : Prop := PW X e (rdT X.K W A H0 f)
def VA (X : Cx) (W : WX) (A H0 : Hp) (es : List Expr) (fl : List Bool) (f : FA) : Prop := PA X es (rdA X.K W A H0 fl f)

section
variable {X : Cx} {e : Expr} {t t' : TE}
theorem pe_imp (h : PE X e t) (k : ∀ σ H Q, t' σ H Q → t σ H Q) : PE X e t' := ⟨fun pins s σ H Q I q => h.run pins s σ H Q I (k σ H Q q)⟩
theorem pt_imp {t t' : TT} (h : PT X e t) (k : ∀ σ H Q, t' σ H Q → t σ H Q) : PT X e t' := ⟨fun pins s σ H Q I q => h.run pins s σ H Q I (k σ H Q q)⟩
theorem pw_imp {t t' : TT} (h : PW X e t) (k : ∀ σ H Q, t' σ H Q → t σ H Q) : PW X e t' := ⟨fun wh pins s σ H Q I q => h.run wh pins s σ H Q I (k σ H Q q)⟩
theorem pa_imp {es : List Expr} {t t' : TA} (h : PA X es t) (k : ∀ σ H Q, t' σ H Q → t σ H Q) : PA X es t' := ⟨fun pos pins s σ H Q I q => h.run pos pins s σ H Q I (k σ H Q q)⟩
end
section
variable {X : Cx} {W : WX} {A H0 : Hp} {a b e : Expr} {fa fb f : F} {pos : Pos}

/-! ### from one judgement to another -/
theorem vb_of_ve (h : VE X W A H0 e f) : VB X W A H0 e f := pe_imp h fun σ H Q ⟨env, I, r, q⟩ => ⟨env, I, r, by
  cases hf : f env with
  | ok d =>
    rw [hf] at q
    exact fun v I' H' g k => q v I' H' g (k.mono g.ih)
  | er c p => rw [hf] at q; exact q
  | no => rw [hf] at q; exact q.elim⟩
theorem vl_of_ve (h : VE X W A H0 e f) : VL X W A H0 e f := pe_imp h fun σ H Q ⟨env, I, r, q⟩ => ⟨env, I, r, by
  cases hf : f env with
  | ok d =>
    rw [hf] at q
    cases d with
    | lst ds =>
      intro v I' H' g k
      cases k with
      | lst h1 h2 => exact q _ _ I' H' g (g.ih _ _ h1) h2
    | _ => exact q.elim
  | er c p => rw [hf] at q; exact q
  | no => rw [hf] at q; exact q.elim⟩
/-- a list, or nothing -/
def lsD (d : D) : R D := match d with
  | .lst l => .ok (.lst l)
  | _ => .no
def fLs (f : F) : F := f1 lsD f
theorem Grow.add {I H I' H' : Hp} {a : Addr} {o : HO} (g : Grow I H I' H') (h0 : H a = none) (hi : I' a = none) (h1 : H' a = some o) : Grow I H (upd I' a o) H' :=
  ⟨g.i.trans (Ex.new hi), g.h, fun b u z => by
    by_cases y : b = a
    · subst y
      rw [upd_same] at z
      rw [← z]
      exact h1
    · rw [upd_ne y] at z
      exact g.ih b u z, fun b u z => by
    by_cases y : b = a
    · subst y
      exact .inr h0
    · rw [upd_ne y] at z
      exact g.new b u z⟩
theorem ve_of_vf (h : VF X W A H0 e f) : VE X W A H0 e (fLs f) := pe_imp h fun σ H Q ⟨env, I, r, q⟩ => ⟨env, I, r, by
  have q' : PostE X.K W σ I H ((f env).bind lsD) Q := q
  cases hf : f env with
  | ok d =>
    rw [hf] at q'
    cases d with
    | lst ds => exact fun a vs I' H' g h0 hi h1 h2 => q' (.ref a) (upd I' a (.lst vs)) H' (g.add h0 hi h1) (.lst upd_same (h2.mono (Ex.new hi)))
    | _ => exact q'.elim
  | er c p => rw [hf] at q'; exact q'
  | no => rw [hf] at q'; exact q'.elim⟩
theorem vl_of_vf (h : VF X W A H0 e f) : VL X W A H0 e f := pe_imp h fun σ H Q ⟨env, I, r, q⟩ => ⟨env, I, r, by
  cases hf : f env with
  | ok d =>
    rw [hf] at q
    cases d with
    | lst ds => exact fun a vs I' H' g h0 hi h1 h2 => q a vs I' H' g h1 h2
    | _ => exact q.elim
  | er c p => rw [hf] at q; exact q
  | no => rw [hf] at q; exact q.elim⟩
/-- a scalar is told anywhere -/
theorem ve_sc (h : VB X W A H0 e f) : VE X W A H0 e (f1 scD f) := pe_imp h fun σ H Q ⟨env, I, r, q⟩ => ⟨env, I, r, by
  have q' : PostE X.K W σ I H ((f env).bind scD) Q := q
  cases hf : f env with
  | ok d =>
    rw [hf] at q'
    intro v I' H' g k
    cases d with
    | non => exact q' v I' H' g (k.sc_any rfl)
    | bl b => exact q' v I' H' g (k.sc_any rfl)
    | int i => exact q' v I' H' g (k.sc_any rfl)
    | str z => exact q' v I' H' g (k.sc_any rfl)
    | _ => exact q'.elim
  | er c p => rw [hf] at q'; exact q'
  | no => rw [hf] at q'; exact q'.elim⟩
/-- a test by a value -/
def blD (d : D) : R D := match d with
  | .bl b => .ok (.bl b)
  | _ => .no
theorem vt_val (h : VB X W A H0 e f) (he : ∀ whole, isTrue e X.env whole = (do let v ← whole; standAt e.pos; holding [v] (truthy v)) := by intro _; rfl) : VT X W A H0 e f := pt_imp (pt_val h he) fun σ H Q ⟨env, I, r, q⟩ => ⟨env, I, r, by
  cases hf : f env with
  | ok d =>
    rw [hf] at q
    cases d with
    | bl b =>
      intro v I' H' g k
      cases k
      exact ⟨b, rfl, q I' H' g⟩
    | _ => exact q.elim
  | er c p => rw [hf] at q; exact q
  | no => rw [hf] at q; exact q.elim⟩

/-! ### names and constants -/
theorem ve_var (i : Nat) {x : Str} (hN : X.N[i]? = some x := by rfl) (hv : Vis X.env.scope x := by first | exact Or.inl rfl | exact Or.inr (Or.inl rfl) | exact Or.inr (Or.inr rfl)) (hd : (x == ("__debug__" : Str)) = false := by decide)
    (hcd : (x == ("__classdict__" : Str)) = false := by decide) : VE X W A H0 (.Name x pos) (fI i) := pe_imp (pe_var hN hv hd hcd) fun σ H Q ⟨env, I, r, q⟩ => by
  unfold fI at q
  cases he : env[i]? with
  | none => rw [he] at q; exact q.elim
  | some s =>
    rw [he] at q
    cases s with
    | im d =>
      obtain ⟨v, h1, h2⟩ := r.im i d he
      exact ⟨v, h1, q v I H (Grow.refl r.g.ih) h2⟩
    | _ => exact q.elim
theorem vb_var (i : Nat) {x : Str} (hN : X.N[i]? = some x := by rfl) (hv : Vis X.env.scope x := by first | exact Or.inl rfl | exact Or.inr (Or.inl rfl) | exact Or.inr (Or.inr rfl)) (hd : (x == ("__debug__" : Str)) = false := by decide)
    (hcd : (x == ("__classdict__" : Str)) = false := by decide) : VB X W A H0 (.Name x pos) (fL i) := pe_imp (pe_var hN hv hd hcd) fun σ H Q ⟨env, I, r, q⟩ => by
  unfold fL at q
  cases he : env[i]? with
  | none => rw [he] at q; exact q.elim
  | some s =>
    rw [he] at q
    cases s with
    | im d =>
      obtain ⟨v, h1, h2⟩ := r.im i d he
      exact ⟨v, h1, q v I H (Grow.refl r.g.ih) (h2.mono r.g.ih)⟩
    | bo d =>
      obtain ⟨v, h1, h2⟩ := r.bo i d he
      exact ⟨v, h1, q v I H (Grow.refl r.g.ih) (h2.mono r.g.h)⟩
    | mu l =>
      obtain ⟨a, vs, h1, h2, h3, h4, h5⟩ := r.mu i l he
      exact ⟨.ref a, h1, q (.ref a) I H (Grow.refl r.g.ih) (.lst h2 (h5.mono r.g.ih))⟩
    | ow d =>
      cases d with
      | d d =>
        obtain ⟨v, J, h1, w, h3⟩ := r.ow i _ he
        exact ⟨v, h1, q v I H (Grow.refl r.g.ih) (Rd.mono (mrg_ex r.g.ih w.h) h3)⟩
      | n k b => exact q.elim
    | no => exact q.elim
    | md => exact q.elim
def fM (i : Nat) : F := fun env => match env[i]? with
  | some (.mu l) => .ok (.lst l)
  | _ => .no
theorem vl_mu (i : Nat) {x : Str} (hN : X.N[i]? = some x := by rfl) (hv : Vis X.env.scope x := by first | exact Or.inl rfl | exact Or.inr (Or.inl rfl) | exact Or.inr (Or.inr rfl)) (hd : (x == ("__debug__" : Str)) = false := by decide)
    (hcd : (x == ("__classdict__" : Str)) = false := by decide) : VL X W A H0 (.Name x pos) (fM i) := pe_imp (pe_var hN hv hd hcd) fun σ H Q ⟨env, I, r, q⟩ => by
  unfold fM at q
  cases he : env[i]? with
  | none => rw [he] at q; exact q.elim
  | some s =>
    rw [he] at q
    cases s with
    | mu l =>
      obtain ⟨a, vs, h1, h2, h3, h4, h5⟩ := r.mu i l he
      exact ⟨.ref a, h1, q a vs I H (Grow.refl r.g.ih) h2 h5⟩
    | _ => exact q.elim
/-- a borrowed list of scalars -/
def allSc : List D → Bool
  | [] => true
  | d :: ds => d.sc.isSome && allSc ds
def fBs (i : Nat) : F := fun env => match env[i]? with
  | some (.bo (.lst l)) => if allSc l then .ok (.lst l) else .no
  | _ => .no
theorem RdA.sc_any {K : PySem.W.Frag} {I J : Hp} : ∀ {vs : List V} {ds : List D}, RdA K I vs ds → allSc ds = true → RdA K J vs ds
  | _, _, .nil, _ => .nil
  | _, d :: _, .cons h q, e => by
    obtain ⟨e1, e2⟩ := Bool.and_eq_true_iff.mp (show (d.sc.isSome && allSc _) = true from e)
    obtain ⟨w, hw⟩ := Option.isSome_iff_exists.mp e1
    exact .cons (h.sc_any hw) (RdA.sc_any q e2)
theorem vl_bo (i : Nat) {x : Str} (hN : X.N[i]? = some x := by rfl) (hv : Vis X.env.scope x := by first | exact Or.inl rfl | exact Or.inr (Or.inl rfl) | exact Or.inr (Or.inr rfl)) (hd : (x == ("__debug__" : Str)) = false := by decide)
    (hcd : (x == ("__classdict__" : Str)) = false := by decide) : VL X W A H0 (.Name x pos) (fBs i) := pe_imp (pe_var hN hv hd hcd) fun σ H Q ⟨env, I, r, q⟩ => by
  unfold fBs at q
  cases he : env[i]? with
  | none => rw [he] at q; exact q.elim
  | some s =>
    rw [he] at q
    cases s with
    | bo d =>
      cases d with
      | lst l =>
        obtain ⟨v, h1, h2⟩ := r.bo i _ he
        cases h2 with
        | lst g1 g2 =>
          refine ⟨_, h1, ?_⟩
          by_cases ha : allSc l = true
          · have q' : PostC X.K W σ I H (if allSc l = true then R.ok (D.lst l) else R.no) Q := q
            rw [if_pos ha] at q'
            exact q' _ _ I H (Grow.refl r.g.ih) (r.g.h _ _ g1) (g2.sc_any ha)
          · have q' : PostC X.K W σ I H (if allSc l = true then R.ok (D.lst l) else R.no) Q := q
            rw [if_neg ha] at q'
            exact q'.elim
      | _ => exact q.elim
    | _ => exact q.elim
theorem ve_int {i j} : VE X W A H0 (.Constant (.int i) j pos) (fC (.int i)) := pe_imp pe_int fun σ H Q ⟨env, I, r, q⟩ => q _ I H (Grow.refl r.g.ih) .int
theorem ve_bl {i j} : VE X W A H0 (.Constant (.bool i) j pos) (fC (.bl i)) := pe_imp pe_bl fun σ H Q ⟨env, I, r, q⟩ => q _ I H (Grow.refl r.g.ih) .bl
theorem ve_non {j} : VE X W A H0 (.Constant .none j pos) (fC .non) := pe_imp pe_non fun σ H Q ⟨env, I, r, q⟩ => q _ I H (Grow.refl r.g.ih) .non
theorem ve_str {i j} : VE X W A H0 (.Constant (.str i) j pos) (fC (.str i)) := pe_imp pe_str fun σ H Q ⟨env, I, r, q⟩ => q _ I H (Grow.refl r.g.ih) .str
/-- a constant of the module -/
theorem ve_gi {x : Str} {i : Int} (hg : Gl X x) (hm : ∃ t, X.mg x = some (.int i t)) (hd : (x == ("__debug__" : Str)) = false := by decide) : VE X W A H0 (.Name x pos) (fC (.int i)) :=
  pe_imp (pe_glob (v := .int i) hg hm.choose_spec ⟨_, rfl⟩ hd) fun σ H Q ⟨env, I, r, q⟩ => q _ I H (Grow.refl r.g.ih) .int
theorem ve_gs {x z : Str} (hg : Gl X x) (hm : ∃ t, X.mg x = some (.str z t)) (hd : (x == ("__debug__" : Str)) = false := by decide) : VE X W A H0 (.Name x pos) (fC (.str z)) :=
  pe_imp (pe_glob (v := .str z) hg hm.choose_spec ⟨_, rfl⟩ hd) fun σ H Q ⟨env, I, r, q⟩ => q _ I H (Grow.refl r.g.ih) .str

/-! ### arguments -/
theorem va_nil : VA X W A H0 [] [] aNil := pa_imp pa_nil fun σ H Q ⟨env, I, r, q⟩ => q [] I H (Grow.refl r.g.ih) .nil
theorem va_st {es : List Expr} {fl : List Bool} {fs : FA} (h : VE X W A H0 e f) (hr : VA X W A H0 es fl fs) (hs : starEach (e :: es) X.env = (false, eval e X.env) :: starEach es X.env := by rfl) : VA X W A H0 (e :: es) (true :: fl) (aCons f fs) :=
  pa_imp (pa_cons h hr hs) fun σ H Q ⟨env, I, r, q⟩ => ⟨env, I, r, by
    have q' : PostA X.K W σ (true :: fl) I H ((f env).bind fun x => (fs env).bind fun y => .ok (x :: y)) Q := q
    cases hf : f env with
    | ok d =>
      rw [hf] at q'
      refine fun v I' H' g k => ⟨env, I', r.grow g, ?_⟩
      have q2 : PostA X.K W σ (true :: fl) I H ((fs env).bind fun y => .ok (d :: y)) Q := q'
      cases hs : fs env with
      | ok ds =>
        rw [hs] at q2
        exact fun vs I2 H2 g2 k2 => q2 (v :: vs) I2 H2 (g.trans g2) (.st (k.mono g2.i) k2)
      | er c p =>
        rw [hs] at q2
        exact fun cls od I2 H2 g2 k2 => q2 cls od I2 H2 (g.trans g2) k2
      | no => rw [hs] at q2; exact q2.elim
    | er c p => rw [hf] at q'; exact q'
    | no => rw [hf] at q'; exact q'.elim⟩
theorem va_lo {es : List Expr} {fl : List Bool} {fs : FA} (h : VB X W A H0 e f) (hr : VA X W A H0 es fl fs) (hs : starEach (e :: es) X.env = (false, eval e X.env) :: starEach es X.env := by rfl) : VA X W A H0 (e :: es) (false :: fl) (aCons f fs) :=
  pa_imp (pa_cons h hr hs) fun σ H Q ⟨env, I, r, q⟩ => ⟨env, I, r, by
    have q' : PostA X.K W σ (false :: fl) I H ((f env).bind fun x => (fs env).bind fun y => .ok (x :: y)) Q := q
    cases hf : f env with
    | ok d =>
      rw [hf] at q'
      refine fun v I' H' g k => ⟨env, I', r.grow g, ?_⟩
      have q2 : PostA X.K W σ (false :: fl) I H ((fs env).bind fun y => .ok (d :: y)) Q := q'
      cases hs : fs env with
      | ok ds =>
        rw [hs] at q2
        exact fun vs I2 H2 g2 k2 => q2 (v :: vs) I2 H2 (g.trans g2) (.lo (k.mono g2.h) k2)
      | er c p =>
        rw [hs] at q2
        exact fun cls od I2 H2 g2 k2 => q2 cls od I2 H2 (g.trans g2) k2
      | no => rw [hs] at q2; exact q2.elim
    | er c p => rw [hf] at q'; exact q'
    | no => rw [hf] at q'; exact q'.elim⟩

/-! ### operations of two values -/
/-- what an operation on values does: g tells a scalar -/
def SOp (K : PySem.W.Frag) (r : R2) (g : D → D → R D) : Prop := ∀ (x y : V) (dx dy d : D) (H : Hp) (Q : VK), Rd K H x dx → Rd K H y dy → g dx dy = .ok d → ∃ w, d.sc = some w ∧ (Q w H → r x y H Q)
/-- it never errs -/
def NoEr (g : D → D → R D) : Prop := ∀ x y c p, g x y ≠ .er c p
theorem op2_run {r : R2} {g : D → D → R D} (hs : SOp X.K r g) (hn : NoEr g) (ha : VB X W A H0 a fa) (hb : VB X W A H0 b fb) {σ : L2.St} {H : Hp} {Q : VK} (h : rdE X.K W A H0 (f2 g fa fb) σ H Q) : tOp r (rdB X.K W A H0 fa) (rdB X.K W A H0 fb) σ H Q := by
  obtain ⟨env, I, rl, q⟩ := h
  have q1 : PostE X.K W σ I H ((fa env).bind fun x => (fb env).bind fun y => g x y) Q := q
  refine ⟨env, I, rl, ?_⟩
  cases hf : fa env with
  | ok dx =>
    rw [hf] at q1
    refine fun x I1 H1 g1 k1 => ⟨env, I1, rl.grow g1, ?_⟩
    have q2 : PostE X.K W σ I H ((fb env).bind fun y => g dx y) Q := q1
    cases hs2 : fb env with
    | ok dy =>
      rw [hs2] at q2
      refine fun y I2 H2 g2 k2 => ?_
      have q3 : PostE X.K W σ I H (g dx dy) Q := q2
      cases hg : g dx dy with
      | ok d =>
        rw [hg] at q3
        obtain ⟨w, e, k⟩ := hs x y dx dy d H2 Q (k1.mono g2.h) k2 hg
        exact k (q3 w I2 H2 (g1.trans g2) (.of_sc e))
      | er c p => exact absurd hg (hn _ _ _ _)
      | no => rw [hg] at q3; exact q3.elim
    | er c p =>
      rw [hs2] at q2
      exact fun cls od I2 H2 g2 k2 => q2 cls od I2 H2 (g1.trans g2) k2
    | no => rw [hs2] at q2; exact q2.elim
  | er c p => rw [hf] at q1; exact q1
  | no => rw [hf] at q1; exact q1.elim
theorem ve_op {op : Operator} {r : R2} {g : D → D → R D} (ho : OpR X (binaryOp op) r) (hs : SOp X.K r g) (hn : NoEr g) (ha : VB X W A H0 a fa) (hb : VB X W A H0 b fb) : VE X W A H0 (.BinOp a op b pos) (f2 g fa fb) := pe_imp (pe_op ho ha hb) fun _ _ _ h => op2_run hs hn ha hb h
theorem ve_cmp {op : CmpOp} {r : R2} {g : D → D → R D} (ho : OpR X (compareOp op) r) (hs : SOp X.K r g) (hn : NoEr g) (ha : VB X W A H0 a fa) (hb : VB X W A H0 b fb) (hm : behindInMarks op b = false) : VE X W A H0 (.Compare a [op] [b] pos) (f2 g fa fb) :=
  pe_imp (pe_cmpR ho ha hb hm) fun _ _ _ h => op2_run hs hn ha hb h
/-- .. that may tell a new object: strict operands -/
def GOp (K : PySem.W.Frag) (r : R2) (g : D → D → R D) : Prop := ∀ (x y : V) (dx dy d : D) (I H : Hp) (Q : VK), Ex I H → Rd K I x dx → Rd K I y dy → g dx dy = .ok d → (∀ v I' H', Grow I H I' H' → Rd K I' v d → Q v H') → r x y H Q
theorem opg_run {r : R2} {g : D → D → R D} (hs : GOp X.K r g) (hn : NoEr g) {σ : L2.St} {H : Hp} {Q : VK} (h : rdE X.K W A H0 (f2 g fa fb) σ H Q) : tOp r (rdE X.K W A H0 fa) (rdE X.K W A H0 fb) σ H Q := by
  obtain ⟨env, I, rl, q⟩ := h
  have q1 : PostE X.K W σ I H ((fa env).bind fun x => (fb env).bind fun y => g x y) Q := q
  refine ⟨env, I, rl, ?_⟩
  cases hf : fa env with
  | ok dx =>
    rw [hf] at q1
    refine fun x I1 H1 g1 k1 => ⟨env, I1, rl.grow g1, ?_⟩
    have q2 : PostE X.K W σ I H ((fb env).bind fun y => g dx y) Q := q1
    cases hs2 : fb env with
    | ok dy =>
      rw [hs2] at q2
      refine fun y I2 H2 g2 k2 => ?_
      have q3 : PostE X.K W σ I H (g dx dy) Q := q2
      cases hg : g dx dy with
      | ok d =>
        rw [hg] at q3
        exact hs x y dx dy d I2 H2 Q g2.ih (k1.mono g2.i) k2 hg fun v I3 H3 g3 k3 => q3 v I3 H3 ((g1.trans g2).trans g3) k3
      | er c p => exact absurd hg (hn _ _ _ _)
      | no => rw [hg] at q3; exact q3.elim
    | er c p =>
      rw [hs2] at q2
      exact fun cls od I2 H2 g2 k2 => q2 cls od I2 H2 (g1.trans g2) k2
    | no => rw [hs2] at q2; exact q2.elim
  | er c p => rw [hf] at q1; exact q1
  | no => rw [hf] at q1; exact q1.elim
theorem ve_opg {op : Operator} {r : R2} {g : D → D → R D} (ho : OpR X (binaryOp op) r) (hs : GOp X.K r g) (hn : NoEr g) (ha : VE X W A H0 a fa) (hb : VE X W A H0 b fb) : VE X W A H0 (.BinOp a op b pos) (f2 g fa fb) := pe_imp (pe_op ho ha hb) fun _ _ _ h => opg_run hs hn h
theorem OpR.or {f : Value → Value → Sem Value} {r r' : R2} (h : OpR X f r) (h' : OpR X f r') : OpR X f (fun x y H Q => r x y H Q ∨ r' x y H Q) := by
  intro pins s σ H x y v u Q I rx ry q
  exact q.elim (h pins s σ H x y v u Q I rx ry) (h' pins s σ H x y v u Q I rx ry)
end
end BW
/-! BCore3: the operations. -/
namespace BW
open PySem PySem.Spec PyProof.Rows L2
open Evl (Ex Ex.refl Ex.trans Ex.new ex_rd ex_l ex_t)

/-! ### what they tell -/
def addD : D → D → R D
  | .int i, .int j => .ok (.int (i + j))
  | .str x, .str y => if x.length + y.length ≤ sizeLine then .ok (.str (x ++ y)) else .no
  | .lst x, .lst y => if x.length + y.length ≤ sizeLine then .ok (.lst (x ++ y)) else .no
  | .tup x, .tup y => if x.length + y.length ≤ sizeLine then .ok (.tup (x ++ y)) else .no
  | _, _ => .no
def subD : D → D → R D
  | .int i, .int j => .ok (.int (i - j))
  | _, _ => .no
def smallI (i : Int) : Bool := decide (-(2 ^ 64) < i ∧ i < 2 ^ 64)
def mulD : D → D → R D
  | .int i, .int j => if smallI i || smallI j || decide (i.natAbs.log2 + j.natAbs.log2 < 1000000) then .ok (.int (i * j)) else .no
  | .lst x, .int k => if -(2 ^ 63) ≤ k ∧ k < 2 ^ 63 ∧ x.length * k.toNat ≤ sizeLine then .ok (.lst (List.replicate k.toNat x).flatten) else .no
  | _, _ => .no
def fdivD : D → D → R D
  | .int i, .int j => if 0 < j ∧ j.natAbs.log2 < 9000 then .ok (.int (i / j)) else .no
  | _, _ => .no
def modD : D → D → R D
  | .int i, .int j => if 0 < j then .ok (.int (i % j)) else .no
  | _, _ => .no
def powD : D → D → R D
  | .int i, .int j => if 0 ≤ j ∧ j ≤ 1000000 ∧ i.natAbs < 2 ^ 64 then .ok (.int (i ^ j.toNat)) else .no
  | _, _ => .no
def shlD : D → D → R D
  | .int i, .int j => if 0 ≤ j ∧ j ≤ 1000000 ∧ i.natAbs < 2 ^ 64 then .ok (.int (i * 2 ^ j.toNat)) else .no
  | _, _ => .no
def shrD : D → D → R D
  | .int i, .int j => if 0 ≤ j then .ok (.int (i / 2 ^ j.toNat)) else .no
  | _, _ => .no
def andD : D → D → R D
  | .int i, .int j => .ok (.int (Builtin.bitAnd i j))
  | _, _ => .no
def orD : D → D → R D
  | .int i, .int j => .ok (.int (Builtin.bitOr i j))
  | _, _ => .no
def xorD : D → D → R D
  | .int i, .int j => .ok (.int (Builtin.bitXor i j))
  | _, _ => .no
def negD : D → R D
  | .int i => .ok (.int (-i))
  | _ => .no
def ltD : D → D → R D
  | .int i, .int j => .ok (.bl (decide (i < j)))
  | _, _ => .no
def leD : D → D → R D
  | .int i, .int j => .ok (.bl (decide (i ≤ j)))
  | _, _ => .no
def gtD : D → D → R D
  | .int i, .int j => .ok (.bl (decide (j < i)))
  | _, _ => .no
def geD : D → D → R D
  | .int i, .int j => .ok (.bl (decide (j ≤ i)))
  | _, _ => .no
mutual
def py : D → Option PyData
  | .non => some .none
  | .bl b => some (.bool b)
  | .int i => some (.int i)
  | .str z => some (.str z)
  | .lst l => (pyA l).map .list
  | .tup l => (pyA l).map .tuple
  | .scr l => some (.list (l.map .int))
  | .obj _ _ => none
  | .exc _ _ => none
  | .dct _ _ => none
  | .dtt _ _ => none
  | .adr _ => none
def pyA : List D → Option (List PyData)
  | [] => some []
  | d :: ds => (py d).bind fun x => (pyA ds).map fun xs => x :: xs
end
def eqG (a b : D) : R D := match py a, py b with
  | some p, some q => if SeqAt.shaped p && SeqAt.shaped q then .ok (.bl (PyData.eqv p q)) else .no
  | _, _ => .no
def eqD : D → D → R D
  | .int i, .int j => .ok (.bl (decide (i = j)))
  | a, b => eqG a b
def neD (a b : D) : R D := (eqD a b).bind notD
/-- == of scalars -/
def eqS (a b : D) : Bool := match a.sc, b.sc with
  | some v, some w => eqV v w
  | _, _ => false
def inD : D → D → R D
  | x, .lst l => if x.sc.isSome && allSc l then .ok (.bl (l.any fun y => eqS y x)) else .no
  | x, .tup l => if x.sc.isSome && allSc l then .ok (.bl (l.any fun y => eqS y x)) else .no
  | x, .scr l => if x.sc.isSome then .ok (.bl (l.any fun y => eqS (.int y) x)) else .no
  | .str x, .str z => .ok (.bl (!(Builtin.Str.occurrences z x 0 z.length 1).isEmpty))
  | _, _ => .no
def ninD (a b : D) : R D := (inD a b).bind notD
def isD : D → D → R D
  | x, .non => match x.sc with
    | some v => .ok (.bl (decide (v = .non)))
    | none => .ok (.bl false)
  | .bl a, .bl b => .ok (.bl (decide (a = b)))
  | _, _ => .no
def isnD (a b : D) : R D := (isD a b).bind notD
def ixD : D → D → R D
  | .lst l, .int i => match atI l i with
    | some d => .ok d
    | none => .no
  | .tup l, .int i => match atI l i with
    | some d => .ok d
    | none => .no
  | .scr l, .int i => match atI l i with
    | some d => .ok (.int d)
    | none => .no
  | .str z, .int i => if z.length ≤ sizeLine then (match atI z.cps.toList i with
    | some c => .ok (.str ⟨#[c]⟩)
    | none => .no) else .no
  | _, _ => .no
end BW
/-! BCore4: the operations do what they tell. -/
namespace BW
open PySem PySem.Spec PyProof.Rows L2
open Evl (Ex Ex.refl Ex.trans Ex.new ex_rd ex_l ex_t)

section
variable {K : PySem.W.Frag} {I H : Hp}
theorem Rd.int_inv {v : V} {i : Int} (h : Rd K I v (.int i)) : v = .int i := by cases h; rfl
theorem Rd.bl_inv {v : V} {i : Bool} (h : Rd K I v (.bl i)) : v = .bl i := by cases h; rfl
theorem Rd.str_inv {v : V} {i : Str} (h : Rd K I v (.str i)) : v = .str i := by cases h; rfl
theorem Rd.non_inv {v : V} (h : Rd K I v .non) : v = .non := by cases h; rfl
theorem Rd.lst_inv {v : V} {l : List D} (h : Rd K I v (.lst l)) : ∃ a vs, v = .ref a ∧ I a = some (.lst vs) ∧ RdA K I vs l := by cases h with | lst h1 h2 => exact ⟨_, _, rfl, h1, h2⟩
theorem Rd.tup_inv {v : V} {l : List D} (h : Rd K I v (.tup l)) : ∃ a vs, v = .ref a ∧ TupN I a vs ∧ RdA K I vs l := by cases h with | tup h1 h2 => exact ⟨_, _, rfl, h1, h2⟩
theorem Rd.scr_inv {v : V} {l : List Int} (h : Rd K I v (.scr l)) : ∃ a, v = .ref a ∧ SqL K I a (l.map V.int) := by cases h with | scr h1 => exact ⟨_, rfl, h1⟩
theorem Rd.obj_inv {v : V} {c : Nat} {l : List D} (h : Rd K I v (.obj c l)) : ∃ a dx vs, v = .ref a ∧ I a = some (.ins (CL K c) dx ((fns c).zip vs)) ∧ vs.length = (fns c).length ∧ RdA K I vs l := by cases h with | obj h1 h2 h3 => exact ⟨_, _, _, rfl, h1, h2, h3⟩
theorem ok_inj {α : Type} {a b : α} (h : R.ok a = .ok b) : a = b := R.ok.inj h

/-! ### whole numbers -/
theorem so_I {C : Int → Int → Prop} {g : Int → Int → V} {gd : D → D → R D} (h : ∀ dx dy d, gd dx dy = .ok d → ∃ i j, dx = .int i ∧ dy = .int j ∧ C i j ∧ d.sc = some (g i j)) : SOp K (rI C g) gd := by
  intro x y dx dy d H Q hx hy e
  obtain ⟨i, j, rfl, rfl, c, e2⟩ := h _ _ _ e
  exact ⟨_, e2, fun q => ⟨i, j, hx.int_inv, hy.int_inv, c, q⟩⟩
theorem so_I0 {g : Int → Int → V} {gd : D → D → R D} (h : ∀ dx dy d, gd dx dy = .ok d → ∃ i j, dx = .int i ∧ dy = .int j ∧ d.sc = some (g i j)) : SOp K (rI0 g) gd := by
  intro x y dx dy d H Q hx hy e
  obtain ⟨i, j, rfl, rfl, e2⟩ := h _ _ _ e
  exact ⟨_, e2, fun q => ⟨i, j, hx.int_inv, hy.int_inv, q⟩⟩
theorem so_sub : SOp K (rI0 fun i j => .int (i - j)) subD := so_I0 fun dx dy d e => by
  cases dx <;> cases dy <;> first | exact ⟨_, _, rfl, rfl, by rw [← ok_inj e]; rfl⟩ | cases e
theorem so_lt : SOp K (rI0 fun i j => .bl (decide (i < j))) ltD := so_I0 fun dx dy d e => by
  cases dx <;> cases dy <;> first | exact ⟨_, _, rfl, rfl, by rw [← ok_inj e]; rfl⟩ | cases e
theorem so_le : SOp K (rI0 fun i j => .bl (decide (i ≤ j))) leD := so_I0 fun dx dy d e => by
  cases dx <;> cases dy <;> first | exact ⟨_, _, rfl, rfl, by rw [← ok_inj e]; rfl⟩ | cases e
theorem so_gt : SOp K (rI0 fun i j => .bl (decide (j < i))) gtD := so_I0 fun dx dy d e => by
  cases dx <;> cases dy <;> first | exact ⟨_, _, rfl, rfl, by rw [← ok_inj e]; rfl⟩ | cases e
theorem so_ge : SOp K (rI0 fun i j => .bl (decide (j ≤ i))) geD := so_I0 fun dx dy d e => by
  cases dx <;> cases dy <;> first | exact ⟨_, _, rfl, rfl, by rw [← ok_inj e]; rfl⟩ | cases e
theorem so_and : SOp K (rI0 fun i j => .int (Builtin.bitAnd i j)) andD := so_I0 fun dx dy d e => by
  cases dx <;> cases dy <;> first | exact ⟨_, _, rfl, rfl, by rw [← ok_inj e]; rfl⟩ | cases e
theorem so_or : SOp K (rI0 fun i j => .int (Builtin.bitOr i j)) orD := so_I0 fun dx dy d e => by
  cases dx <;> cases dy <;> first | exact ⟨_, _, rfl, rfl, by rw [← ok_inj e]; rfl⟩ | cases e
theorem so_xor : SOp K (rI0 fun i j => .int (Builtin.bitXor i j)) xorD := so_I0 fun dx dy d e => by
  cases dx <;> cases dy <;> first | exact ⟨_, _, rfl, rfl, by rw [← ok_inj e]; rfl⟩ | cases e
theorem ite_ok {α : Type} {c : Prop} [Decidable c] {a b : α} (e : (if c then R.ok a else R.no) = .ok b) : c ∧ a = b := by
  by_cases h : c
  · rw [if_pos h] at e
    exact ⟨h, ok_inj e⟩
  · rw [if_neg h] at e
    cases e
theorem so_fdiv : SOp K (rI CDivW fun i j => .int (i / j)) fdivD := so_I fun dx dy d e => by
  cases dx <;> cases dy <;> first | exact ⟨_, _, rfl, rfl, (ite_ok e).1, by rw [← (ite_ok e).2]; rfl⟩ | cases e
theorem so_mod : SOp K (rI (fun _ j => 0 < j) fun i j => .int (i % j)) modD := so_I fun dx dy d e => by
  cases dx <;> cases dy <;> first | exact ⟨_, _, rfl, rfl, (ite_ok e).1, by rw [← (ite_ok e).2]; rfl⟩ | cases e
theorem so_pow : SOp K (rI CPow fun i j => .int (i ^ j.toNat)) powD := so_I fun dx dy d e => by
  cases dx <;> cases dy <;> first | exact ⟨_, _, rfl, rfl, (ite_ok e).1, by rw [← (ite_ok e).2]; rfl⟩ | cases e
theorem so_shl : SOp K (rI CPow fun i j => .int (i * 2 ^ j.toNat)) shlD := so_I fun dx dy d e => by
  cases dx <;> cases dy <;> first | exact ⟨_, _, rfl, rfl, (ite_ok e).1, by rw [← (ite_ok e).2]; rfl⟩ | cases e
theorem so_shr : SOp K (rI (fun _ j => 0 ≤ j) fun i j => .int (i / 2 ^ j.toNat)) shrD := so_I fun dx dy d e => by
  cases dx <;> cases dy <;> first | exact ⟨_, _, rfl, rfl, (ite_ok e).1, by rw [← (ite_ok e).2]; rfl⟩ | cases e
abbrev NoEr2 (g : D → D → R D) : Prop := NoEr g
theorem ite_er {α : Type} {c : Prop} [Decidable c] {a : α} {n : Nat} {p : List D} : (if c then R.ok a else R.no) ≠ .er n p := by
  by_cases h : c
  · rw [if_pos h]; exact fun z => nomatch z
  · rw [if_neg h]; exact fun z => nomatch z
theorem ne_sub : NoEr subD := fun x y c p => by cases x <;> cases y <;> exact fun z => nomatch z
theorem ne_lt : NoEr ltD := fun x y c p => by cases x <;> cases y <;> exact fun z => nomatch z
theorem ne_le : NoEr leD := fun x y c p => by cases x <;> cases y <;> exact fun z => nomatch z
theorem ne_gt : NoEr gtD := fun x y c p => by cases x <;> cases y <;> exact fun z => nomatch z
theorem ne_ge : NoEr geD := fun x y c p => by cases x <;> cases y <;> exact fun z => nomatch z
theorem ne_and : NoEr andD := fun x y c p => by cases x <;> cases y <;> exact fun z => nomatch z
theorem ne_or : NoEr orD := fun x y c p => by cases x <;> cases y <;> exact fun z => nomatch z
theorem ne_xor : NoEr xorD := fun x y c p => by cases x <;> cases y <;> exact fun z => nomatch z
theorem ne_fdiv : NoEr fdivD := fun x y c p => by cases x <;> cases y <;> first | exact ite_er | exact fun z => nomatch z
theorem ne_mod : NoEr modD := fun x y c p => by cases x <;> cases y <;> first | exact ite_er | exact fun z => nomatch z
theorem ne_pow : NoEr powD := fun x y c p => by cases x <;> cases y <;> first | exact ite_er | exact fun z => nomatch z
theorem ne_shl : NoEr shlD := fun x y c p => by cases x <;> cases y <;> first | exact ite_er | exact fun z => nomatch z
theorem ne_shr : NoEr shrD := fun x y c p => by cases x <;> cases y <;> first | exact ite_er | exact fun z => nomatch z
theorem ne_add : NoEr addD := fun x y c p => by cases x <;> cases y <;> first | exact ite_er | exact fun z => nomatch z
theorem ne_mul : NoEr mulD := fun x y c p => by cases x <;> cases y <;> first | exact ite_er | exact fun z => nomatch z

/-! ### +, * -/
theorem go_add : GOp K (fun x y H Q => (rI0 (fun i j => V.int (i + j)) x y H Q ∨ (∃ i j, x = .str i ∧ y = .str j ∧ i.length + j.length ≤ sizeLine ∧ Q (.str (i ++ j)) H)) ∨ (rCat x y H Q ∨ rCatN K x y H Q)) addD := by
  intro x y dx dy d I H Q ih hx hy e q
  cases dx <;> cases dy <;> try (cases e; done)
  · rw [hx.int_inv, hy.int_inv]
    rw [← ok_inj e] at q
    exact .inl (.inl ⟨_, _, rfl, rfl, q _ I H (Grow.refl ih) .int⟩)
  · rw [hx.str_inv, hy.str_inv]
    obtain ⟨c, e2⟩ := ite_ok e
    rw [← e2] at q
    exact .inl (.inr ⟨_, _, rfl, rfl, c, q _ I H (Grow.refl ih) .str⟩)
  · obtain ⟨a, vs, rfl, h1, h2⟩ := hx.lst_inv
    obtain ⟨b, ws, rfl, h3, h4⟩ := hy.lst_inv
    obtain ⟨c, e2⟩ := ite_ok e
    rw [← e2] at q
    refine .inr (.inl ⟨a, b, vs, ws, rfl, rfl, ih _ _ h1, ih _ _ h3, by rw [h2.length, h4.length]; exact c, fun p hp => ?_⟩)
    exact q (.ref p) _ _ (Grow.push ih hp) (.lst upd_same ((h2.append h4).mono (Ex.new (Evl.fresh_back ih hp))))
  · obtain ⟨a, vs, rfl, h1, h2⟩ := hx.tup_inv
    obtain ⟨b, ws, rfl, h3, h4⟩ := hy.tup_inv
    obtain ⟨c, e2⟩ := ite_ok e
    rw [← e2] at q
    refine .inr (.inr ⟨a, b, vs, ws, rfl, rfl, (h1.mono ih).sq, (h3.mono ih).sq, by rw [h2.length, h4.length]; exact c, fun z => ?_, fun _ z => ?_, fun _ _ p ob hp hd => ?_⟩)
    · subst z
      cases h2
      exact q _ I H (Grow.refl ih) hy
    · subst z
      cases h4
      rw [List.append_nil] at q
      exact q _ I H (Grow.refl ih) hx
    · exact q (.ref p) _ _ (Grow.push ih hp) (.tup (.new hd) ((h2.append h4).mono (Ex.new (Evl.fresh_back ih hp))))
theorem RdA.rep {vs : List V} {ds : List D} (h : RdA K I vs ds) : ∀ n, RdA K I (List.replicate n vs).flatten (List.replicate n ds).flatten
  | 0 => .nil
  | n + 1 => by
    rw [List.replicate_succ, List.replicate_succ, List.flatten_cons, List.flatten_cons]
    exact h.append (RdA.rep h n)
end
section
variable {X : Cx} {W : WX} {A H0 : Hp} {a b e : Expr} {fa fb f : F} {pos : Pos} {K : PySem.W.Frag}
theorem ve_add (ha : VE X W A H0 a fa) (hb : VE X W A H0 b fb) : VE X W A H0 (.BinOp a .Add b pos) (f2 addD fa fb) := ve_opg ((op_add.or op_add_str).or (op_cat.or op_catN)) go_add ne_add ha hb
theorem ve_sub (ha : VB X W A H0 a fa) (hb : VB X W A H0 b fb) : VE X W A H0 (.BinOp a .Sub b pos) (f2 subD fa fb) := ve_op op_sub so_sub ne_sub ha hb
theorem ve_fdiv (ha : VB X W A H0 a fa) (hb : VB X W A H0 b fb) : VE X W A H0 (.BinOp a .FloorDiv b pos) (f2 fdivD fa fb) := ve_op op_fdivW so_fdiv ne_fdiv ha hb
theorem ve_mod (ha : VB X W A H0 a fa) (hb : VB X W A H0 b fb) : VE X W A H0 (.BinOp a .Mod b pos) (f2 modD fa fb) := ve_op op_mod so_mod ne_mod ha hb
theorem ve_pow (ha : VB X W A H0 a fa) (hb : VB X W A H0 b fb) : VE X W A H0 (.BinOp a .Pow b pos) (f2 powD fa fb) := ve_op op_pow so_pow ne_pow ha hb
theorem ve_shl (ha : VB X W A H0 a fa) (hb : VB X W A H0 b fb) : VE X W A H0 (.BinOp a .LShift b pos) (f2 shlD fa fb) := ve_op op_shl so_shl ne_shl ha hb
theorem ve_shr (ha : VB X W A H0 a fa) (hb : VB X W A H0 b fb) : VE X W A H0 (.BinOp a .RShift b pos) (f2 shrD fa fb) := ve_op op_shr so_shr ne_shr ha hb
theorem ve_band (ha : VB X W A H0 a fa) (hb : VB X W A H0 b fb) : VE X W A H0 (.BinOp a .BitAnd b pos) (f2 andD fa fb) := ve_op op_and so_and ne_and ha hb
theorem ve_bor (ha : VB X W A H0 a fa) (hb : VB X W A H0 b fb) : VE X W A H0 (.BinOp a .BitOr b pos) (f2 orD fa fb) := ve_op op_or so_or ne_or ha hb
theorem ve_bxor (ha : VB X W A H0 a fa) (hb : VB X W A H0 b fb) : VE X W A H0 (.BinOp a .BitXor b pos) (f2 xorD fa fb) := ve_op op_xor so_xor ne_xor ha hb
theorem ve_lt (ha : VB X W A H0 a fa) (hb : VB X W A H0 b fb) : VE X W A H0 (.Compare a [.Lt] [b] pos) (f2 ltD fa fb) := ve_cmp op_lt so_lt ne_lt ha hb (nomark _)
theorem ve_le (ha : VB X W A H0 a fa) (hb : VB X W A H0 b fb) : VE X W A H0 (.Compare a [.LtE] [b] pos) (f2 leD fa fb) := ve_cmp op_le so_le ne_le ha hb (nomark _)
theorem ve_gt (ha : VB X W A H0 a fa) (hb : VB X W A H0 b fb) : VE X W A H0 (.Compare a [.Gt] [b] pos) (f2 gtD fa fb) := ve_cmp op_gt so_gt ne_gt ha hb (nomark _)
theorem ve_ge (ha : VB X W A H0 a fa) (hb : VB X W A H0 b fb) : VE X W A H0 (.Compare a [.GtE] [b] pos) (f2 geD fa fb) := ve_cmp op_ge so_ge ne_ge ha hb (nomark _)
theorem go_mul : GOp K (fun x y H Q => (rI CMul (fun i j => V.int (i * j)) x y H Q ∨ rI CMulW (fun i j => V.int (i * j)) x y H Q) ∨ rRep x y H Q) mulD := by
  intro x y dx dy d I H Q ih hx hy e q
  cases dx <;> cases dy <;> try (cases e; done)
  · rename_i i j
    rw [hx.int_inv, hy.int_inv]
    obtain ⟨c, e2⟩ := ite_ok e
    rw [← e2] at q
    have q' := q _ I H (Grow.refl ih) .int
    rcases Bool.or_eq_true_iff.mp c with c | c
    · rcases Bool.or_eq_true_iff.mp c with c | c
      · exact .inl (.inl ⟨i, j, rfl, rfl, .inl (of_decide_eq_true c), q'⟩)
      · exact .inl (.inl ⟨i, j, rfl, rfl, .inr (of_decide_eq_true c), q'⟩)
    · exact .inl (.inr ⟨i, j, rfl, rfl, of_decide_eq_true (p := i.natAbs.log2 + j.natAbs.log2 < 1000000) c, q'⟩)
  · rename_i l k
    obtain ⟨a, vs, rfl, h1, h2⟩ := hx.lst_inv
    rw [hy.int_inv]
    obtain ⟨c, e2⟩ := ite_ok e
    rw [← e2] at q
    refine .inr ⟨a, k, vs, rfl, rfl, ih _ _ h1, c.1, c.2.1, by rw [h2.length]; exact c.2.2, fun p hp => ?_⟩
    exact q (.ref p) _ _ (Grow.push ih hp) (.lst upd_same ((h2.rep _).mono (Ex.new (Evl.fresh_back ih hp))))
theorem ve_mul (ha : VE X W A H0 a fa) (hb : VE X W A H0 b fb) : VE X W A H0 (.BinOp a .Mult b pos) (f2 mulD fa fb) := ve_opg ((op_mul.or op_mulW).or op_rep) go_mul ne_mul ha hb
end
end BW
/-! BCore5: comparisons, logic, places, displays. -/
namespace BW
open PySem PySem.Spec PyProof.Rows L2
open Evl (Ex Ex.refl Ex.trans Ex.new ex_rd ex_l ex_t)
section
variable {K : PySem.W.Frag} {I H : Hp}
theorem dp_ints : ∀ ns : List Int, DpAll K H (ns.map V.int) (ns.map PyData.int)
  | [] => .nil
  | _ :: r => .cons (.int _) (dp_ints r)
mutual
theorem dp_of : ∀ {v : V} {d : D}, Rd K H v d → ∀ {p : PyData}, py d = some p → Dp K H v p
  | _, _, .non, p, e => by
    have e' : some PyData.none = some p := e
    cases e'
    exact .non
  | _, _, .bl, p, e => by
    have e' : some (PyData.bool _) = some p := e
    cases e'
    exact .bl _
  | _, _, .int, p, e => by
    have e' : some (PyData.int _) = some p := e
    cases e'
    exact .int _
  | _, _, .str, p, e => by
    have e' : some (PyData.str _) = some p := e
    cases e'
    exact .str _
  | _, _, .lst (ds := ds) h q, p, e => by
    have e' : (pyA ds).map PyData.list = some p := e
    obtain ⟨ps, e1, e2⟩ := Option.map_eq_some_iff.mp e'
    rw [← e2]
    exact .lst (.inl (.inl h)) (dp_all q e1)
  | _, _, .tup (ds := ds) h q, p, e => by
    have e' : (pyA ds).map PyData.tuple = some p := e
    obtain ⟨ps, e1, e2⟩ := Option.map_eq_some_iff.mp e'
    rw [← e2]
    exact .tup h.sq (dp_all q e1)
  | _, _, .scr (ns := ns) h, p, e => by
    have e' : some (PyData.list (ns.map PyData.int)) = some p := e
    cases e'
    exact .lst h (dp_ints ns)
  | _, _, .obj _ _ _, p, e => by
    have e' : none = some p := e
    cases e'
  | _, _, .exc0 _, p, e => by
    have e' : none = some p := e
    cases e'
  | _, _, .exc1 _ _ _, p, e => by
    have e' : none = some p := e
    cases e'
  | _, _, .dct _ _ _, p, e => by
    have e' : none = some p := e
    cases e'
  | _, _, .dtt _ _ _, p, e => by
    have e' : none = some p := e
    cases e'
  | _, _, .adr, p, e => by
    have e' : none = some p := e
    cases e'
theorem dp_all : ∀ {vs : List V} {ds : List D}, RdA K H vs ds → ∀ {ps : List PyData}, pyA ds = some ps → DpAll K H vs ps
  | _, _, .nil, ps, e => by
    have e' : some ([] : List PyData) = some ps := e
    cases e'
    exact .nil
  | _, _, .cons (d := d) (ds := ds) h q, ps, e => by
    have e' : ((py d).bind fun x => (pyA ds).map fun xs => x :: xs) = some ps := e
    obtain ⟨x, e1, e2⟩ := Option.bind_eq_some_iff.mp e'
    obtain ⟨xs, e3, e4⟩ := Option.map_eq_some_iff.mp e2
    rw [← e4]
    exact .cons (dp_of h e1) (dp_all q e3)
end
theorem eqG_inv {a b d : D} (e : eqG a b = .ok d) : ∃ p q, py a = some p ∧ py b = some q ∧ SeqAt.shaped p = true ∧ SeqAt.shaped q = true ∧ d = .bl (PyData.eqv p q) := by
  unfold eqG at e
  cases h1 : py a with
  | none => rw [h1] at e; cases e
  | some p =>
    cases h2 : py b with
    | none => rw [h1, h2] at e; cases e
    | some q =>
      rw [h1, h2] at e
      have e' : (if (SeqAt.shaped p && SeqAt.shaped q) = true then R.ok (D.bl (PyData.eqv p q)) else R.no) = R.ok d := e
      obtain ⟨c, e2⟩ := ite_ok e'
      obtain ⟨c1, c2⟩ := Bool.and_eq_true_iff.mp c
      exact ⟨p, q, rfl, rfl, c1, c2, e2.symm⟩
theorem eqD_inv {a b d : D} (e : eqD a b = .ok d) : ∃ p q, py a = some p ∧ py b = some q ∧ SeqAt.shaped p = true ∧ SeqAt.shaped q = true ∧ d = .bl (PyData.eqv p q) := by
  cases a <;> cases b <;> exact eqG_inv e
theorem so_eq : SOp K (rEqD K) eqD := by
  intro x y dx dy d H Q hx hy e
  obtain ⟨p, q, e1, e2, s1, s2, e3⟩ := eqD_inv e
  subst e3
  exact ⟨_, rfl, fun k => ⟨p, q, dp_of hx e1, dp_of hy e2, s1, s2, k⟩⟩
theorem not_inv {r : R D} {d : D} (e : r.bind notD = .ok d) : ∃ b, r = .ok (.bl b) ∧ d = .bl (!b) := by
  cases r with
  | ok x =>
    cases x with
    | bl b =>
      have e' : R.ok (D.bl (!b)) = R.ok d := e
      exact ⟨b, rfl, (ok_inj e').symm⟩
    | _ => cases e
  | er c p => cases e
  | no => cases e
theorem so_ne : SOp K (rNeD K) neD := by
  intro x y dx dy d H Q hx hy e
  obtain ⟨b, e0, e4⟩ := not_inv e
  obtain ⟨p, q, e1, e2, s1, s2, e3⟩ := eqD_inv e0
  cases e3
  subst e4
  exact ⟨_, rfl, fun k => ⟨p, q, dp_of hx e1, dp_of hy e2, s1, s2, k⟩⟩
theorem ner_eqG (x y : D) (c : Nat) (p : List D) : eqG x y ≠ .er c p := by
  unfold eqG
  cases py x with
  | none => exact fun z => nomatch z
  | some p =>
    cases py y with
    | none => exact fun z => nomatch z
    | some q => exact ite_er
theorem ner_eq : NoEr eqD := fun x y c p => by
  unfold eqD
  split
  · exact fun z => nomatch z
  · exact ner_eqG _ _ c p
theorem ner_not {r : R D} (h : ∀ c p, r ≠ .er c p) (c : Nat) (p : List D) : r.bind notD ≠ .er c p := by
  cases r with
  | ok x => cases x <;> exact fun z => nomatch z
  | er c p => exact absurd rfl (h c p)
  | no => exact fun z => nomatch z
theorem ner_ne : NoEr neD := fun x y => ner_not (ner_eq x y)

/-! ### in -/
theorem allSc_all : ∀ {vs : List V} {ds : List D}, RdA K H vs ds → allSc ds = true → vs.all flatV = true
  | _, _, .nil, _ => rfl
  | _, d :: _, .cons (v := v) h q, e => by
    obtain ⟨e1, e2⟩ := Bool.and_eq_true_iff.mp (show (d.sc.isSome && allSc _) = true from e)
    have f : flatV v = true := by cases h <;> first | rfl | cases e1
    rw [List.all_cons, f, allSc_all q e2]
    rfl
theorem sc_flat {v : V} {d : D} (h : Rd K H v d) (e : d.sc.isSome = true) : flatV v = true ∧ d.sc = some v := by
  cases h <;> first | exact ⟨rfl, rfl⟩ | cases e
theorem inV_of {v : V} {d : D} (h : d.sc = some v) : ∀ {vs : List V} {ds : List D}, RdA K H vs ds → allSc ds = true → inV v vs = ds.any fun y => eqS y d
  | _, _, .nil, _ => rfl
  | _, y :: _, .cons (v := w) k q, e => by
    obtain ⟨e1, e2⟩ := Bool.and_eq_true_iff.mp (show (y.sc.isSome && allSc _) = true from e)
    have f := (sc_flat k e1).2
    have ih := inV_of h q e2
    unfold inV at ih ⊢
    rw [List.any_cons, List.any_cons, ih]
    congr 1
    unfold eqS
    rw [f, h]
theorem inD_ner : NoEr inD := fun x y c p => by cases x <;> cases y <;> first | exact ite_er | exact fun z => nomatch z
theorem ninD_ner : NoEr ninD := fun x y => ner_not (inD_ner x y)
theorem sq_in {x : V} {dx : D} {a : Addr} {vs : List V} {l : List D} (sx : dx.sc.isSome = true) (hx : Rd K H x dx) (h2 : RdA K H vs l) (c : allSc l = true) : flatV x = true ∧ vs.all flatV = true ∧ inV x vs = l.any fun y => eqS y dx :=
  ⟨(sc_flat hx sx).1, allSc_all h2 c, inV_of (sc_flat hx sx).2 h2 c⟩
theorem allSc_ints : ∀ ns : List Int, allSc (ns.map D.int) = true
  | [] => rfl
  | _ :: r => allSc_ints r
theorem any_ints (f : D → Bool) (ns : List Int) : (ns.map D.int).any f = ns.any fun y => f (.int y) := by
  rw [List.any_map]
  rfl
theorem inD_lst (x : D) (l : List D) : inD x (.lst l) = if x.sc.isSome && allSc l then .ok (.bl (l.any fun y => eqS y x)) else .no := by cases x <;> rfl
theorem inD_tup (x : D) (l : List D) : inD x (.tup l) = if x.sc.isSome && allSc l then .ok (.bl (l.any fun y => eqS y x)) else .no := by cases x <;> rfl
theorem inD_scr (x : D) (l : List Int) : inD x (.scr l) = if x.sc.isSome then .ok (.bl (l.any fun y => eqS (.int y) x)) else .no := by cases x <;> rfl
/-- what «in» finds, as the rules want it -/
theorem in_run {x y : V} {dx dy d : D} {H : Hp} (hx : Rd K H x dx) (hy : Rd K H y dy) (e : inD dx dy = .ok d) : ∃ b, d = .bl b ∧ ((∃ p xs, y = .ref p ∧ (SqL K H p xs ∨ SqT K H p xs) ∧ flatV x = true ∧ xs.all flatV = true ∧ inV x xs = b) ∨
    ∃ i j, x = .str i ∧ y = .str j ∧ b = (!(Builtin.Str.occurrences j i 0 j.length 1).isEmpty)) := by
  cases hy with
  | lst h1 h2 =>
    rw [inD_lst] at e
    have e' := ite_ok e
    obtain ⟨c1, c2⟩ := Bool.and_eq_true_iff.mp e'.1
    obtain ⟨k1, k2, k3⟩ := sq_in (a := 0) c1 hx h2 c2
    exact ⟨_, e'.2.symm, .inl ⟨_, _, rfl, .inl (.inl (.inl h1)), k1, k2, k3⟩⟩
  | tup h1 h2 =>
    rw [inD_tup] at e
    have e' := ite_ok e
    obtain ⟨c1, c2⟩ := Bool.and_eq_true_iff.mp e'.1
    obtain ⟨k1, k2, k3⟩ := sq_in (a := 0) c1 hx h2 c2
    exact ⟨_, e'.2.symm, .inl ⟨_, _, rfl, .inr h1.sq, k1, k2, k3⟩⟩
  | scr h1 =>
    rw [inD_scr] at e
    have e' := ite_ok e
    obtain ⟨k1, k2, k3⟩ := sq_in (a := 0) e'.1 hx (RdA.ints (K := K) (I := H)) (allSc_ints _)
    rw [any_ints] at k3
    exact ⟨_, e'.2.symm, .inl ⟨_, _, rfl, .inl h1, k1, k2, k3⟩⟩
  | str =>
    cases dx <;> try (cases e; done)
    have e' := ok_inj e
    exact ⟨_, e'.symm, .inr ⟨_, _, hx.str_inv, rfl, rfl⟩⟩
  | _ => cases dx <;> cases e
theorem so_in : SOp K (fun x y H Q => rIn K false x y H Q ∨ ∃ i j, x = .str i ∧ y = .str j ∧ Q (.bl (!(Builtin.Str.occurrences j i 0 j.length 1).isEmpty)) H) inD := by
  intro x y dx dy d H Q hx hy e
  obtain ⟨b, rfl, h⟩ := in_run hx hy e
  refine ⟨_, rfl, fun q => ?_⟩
  rcases h with ⟨p, xs, rfl, h1, h2, h3, h4⟩ | ⟨i, j, rfl, rfl, h4⟩
  · refine .inl ⟨p, xs, rfl, h1, h2, h3, ?_⟩
    show Q (.bl (inV x xs)) H
    rw [h4]
    exact q
  · refine .inr ⟨i, j, rfl, rfl, ?_⟩
    rw [← h4]
    exact q
theorem so_nin : SOp K (fun x y H Q => rIn K true x y H Q ∨ ∃ i j, x = .str i ∧ y = .str j ∧ Q (.bl (!(!(Builtin.Str.occurrences j i 0 j.length 1).isEmpty))) H) ninD := by
  intro x y dx dy d H Q hx hy e
  obtain ⟨b0, e0, e4⟩ := not_inv e
  obtain ⟨b, e5, h⟩ := in_run hx hy e0
  cases e5
  subst e4
  refine ⟨_, rfl, fun q => ?_⟩
  rcases h with ⟨p, xs, rfl, h1, h2, h3, h4⟩ | ⟨i, j, rfl, rfl, h4⟩
  · refine .inl ⟨p, xs, rfl, h1, h2, h3, ?_⟩
    show Q (.bl (!inV x xs)) H
    rw [h4]
    exact q
  · refine .inr ⟨i, j, rfl, rfl, ?_⟩
    rw [← h4]
    exact q

/-! ### is -/
theorem rd_isnon {x : V} {dx : D} (hx : Rd K H x dx) : decide (x = V.non) = match dx.sc with
    | some v => decide (v = V.non)
    | none => false := by
  cases hx <;> first | rfl | exact decide_eq_false (fun z => nomatch z)
theorem isD_non {dx d : D} (e : isD dx .non = .ok d) {x : V} (hx : Rd K H x dx) : d = .bl (decide (x = .non)) := by
  rw [rd_isnon hx]
  unfold isD at e
  cases hd : dx.sc with
  | none =>
    have e' : R.ok (D.bl false) = R.ok d := by cases dx <;> first | exact e | cases hd
    exact (ok_inj e').symm
  | some v =>
    have e' : R.ok (D.bl (decide (v = V.non))) = R.ok d := by cases dx <;> first | (cases hd; exact e) | cases hd
    exact (ok_inj e').symm
theorem isD_ner : NoEr isD := fun x y c p => by
  cases y with
  | non => cases x <;> exact fun z => nomatch z
  | _ => cases x <;> exact fun z => nomatch z
theorem isnD_ner : NoEr isnD := fun x y => ner_not (isD_ner x y)
theorem isD_inv {dx dy d : D} (e : isD dx dy = .ok d) : dy = .non ∨ ∃ a b, dx = .bl a ∧ dy = .bl b ∧ d = .bl (decide (a = b)) := by
  cases dy with
  | non => exact .inl rfl
  | bl b =>
    cases dx with
    | bl a => exact .inr ⟨a, b, rfl, rfl, (ok_inj (show R.ok (D.bl (decide (a = b))) = R.ok d from e)).symm⟩
    | _ => cases e
  | _ => cases dx <;> cases e
theorem so_is : SOp K (fun x y H Q => (y = .non ∧ Q (.bl (decide (x = .non))) H) ∨ rIsB x y H Q) isD := by
  intro x y dx dy d H Q hx hy e
  rcases isD_inv e with z | ⟨a, b, rfl, rfl, rfl⟩
  · subst z
    have e2 := isD_non e hx
    subst e2
    exact ⟨_, rfl, fun q => .inl ⟨hy.non_inv, q⟩⟩
  · exact ⟨_, rfl, fun q => .inr ⟨a, b, hx.bl_inv, hy.bl_inv, q⟩⟩
theorem so_isn : SOp K (fun x y H Q => (y = .non ∧ Q (.bl (!decide (x = .non))) H) ∨ rNotB x y H Q) isnD := by
  intro x y dx dy d H Q hx hy e
  obtain ⟨b0, e0, e4⟩ := not_inv e
  subst e4
  rcases isD_inv e0 with z | ⟨a, b, rfl, rfl, e5⟩
  · subst z
    have e2 := isD_non e0 hx
    cases e2
    exact ⟨_, rfl, fun q => .inl ⟨hy.non_inv, q⟩⟩
  · cases e5
    exact ⟨_, rfl, fun q => .inr ⟨a, b, hx.bl_inv, hy.bl_inv, q⟩⟩
end
section
variable {X : Cx} {W : WX} {A H0 : Hp} {a b c e : Expr} {fa fb fc f : F} {pos : Pos}
theorem ve_eq (hu : X.A.units + 64 < cLine) (ha : VB X W A H0 a fa) (hb : VB X W A H0 b fb) : VE X W A H0 (.Compare a [.Eq] [b] pos) (f2 eqD fa fb) := ve_cmp (op_eqD hu) so_eq ner_eq ha hb (nomark _)
theorem ve_ne (hu : X.A.units + 64 < cLine) (ha : VB X W A H0 a fa) (hb : VB X W A H0 b fb) : VE X W A H0 (.Compare a [.NotEq] [b] pos) (f2 neD fa fb) := ve_cmp (op_neD hu) so_ne ner_ne ha hb (nomark _)
theorem ve_in (ha : VB X W A H0 a fa) (hb : VB X W A H0 b fb) (hm : behindInMarks .In b = false := by rfl) : VE X W A H0 (.Compare a [.In] [b] pos) (f2 inD fa fb) := ve_cmp (op_in_seq.or op_in_str) so_in inD_ner ha hb hm
theorem ve_nin (ha : VB X W A H0 a fa) (hb : VB X W A H0 b fb) (hm : behindInMarks .NotIn b = false := by rfl) : VE X W A H0 (.Compare a [.NotIn] [b] pos) (f2 ninD fa fb) := ve_cmp (op_notIn_seq.or op_notIn_str) so_nin ninD_ner ha hb hm
theorem ve_is (ha : VB X W A H0 a fa) (hb : VB X W A H0 b fb) : VE X W A H0 (.Compare a [.Is] [b] pos) (f2 isD fa fb) := ve_cmp (op_isN.or op_isBl) so_is isD_ner ha hb (nomark _)
theorem ve_isn (ha : VB X W A H0 a fa) (hb : VB X W A H0 b fb) : VE X W A H0 (.Compare a [.IsNot] [b] pos) (f2 isnD fa fb) := ve_cmp (op_notN.or op_notBl) so_isn isnD_ner ha hb (nomark _)

/-! ### logic -/
theorem bind_ok {α β : Type} {x : R α} {f : α → R β} {y : β} (e : x.bind f = .ok y) : ∃ a, x = .ok a ∧ f a = .ok y := by
  cases x with
  | ok a => exact ⟨a, rfl, e⟩
  | er c p => cases e
  | no => cases e
theorem bind_er {α β : Type} {x : R α} {f : α → R β} {c : Nat} {p : List D} (e : x.bind f = .er c p) : x = .er c p ∨ ∃ a, x = .ok a ∧ f a = .er c p := by
  cases x with
  | ok a => exact .inr ⟨a, rfl, e⟩
  | er c p => cases e; exact .inl rfl
  | no => cases e
theorem vt_and_run {σ : L2.St} {H : Hp} {Q : Bool → Hp → Prop} (h : rdT X.K W A H0 (fAnd fa fb) σ H Q) : tAnd (rdT X.K W A H0 fa) (rdT X.K W A H0 fb) σ H Q := by
  obtain ⟨env, I, r, q⟩ := h
  refine ⟨env, I, r, ?_⟩
  unfold fAnd at q
  cases hf : fa env with
  | ok d =>
    rw [hf] at q
    cases d with
    | bl x =>
      cases x with
      | true =>
        refine fun I1 H1 g1 => iteT ⟨env, I1, r.grow g1, ?_⟩
        have q2 : PostT X.K W σ I H ((fb env).bind blR) Q := q
        cases hb : fb env with
        | ok d =>
          rw [hb] at q2
          cases d with
          | bl y => exact fun I2 H2 g2 => q2 I2 H2 (g1.trans g2)
          | _ => exact q2.elim
        | er c p =>
          rw [hb] at q2
          exact fun cls od I2 H2 g2 => q2 cls od I2 H2 (g1.trans g2)
        | no => rw [hb] at q2; exact q2.elim
      | false => exact fun I1 H1 g1 => iteF (q I1 H1 g1)
    | _ => exact q.elim
  | er c p => rw [hf] at q; exact q
  | no => rw [hf] at q; exact q.elim
theorem vt_or_run {σ : L2.St} {H : Hp} {Q : Bool → Hp → Prop} (h : rdT X.K W A H0 (fOr fa fb) σ H Q) : tOr (rdT X.K W A H0 fa) (rdT X.K W A H0 fb) σ H Q := by
  obtain ⟨env, I, r, q⟩ := h
  refine ⟨env, I, r, ?_⟩
  unfold fOr at q
  cases hf : fa env with
  | ok d =>
    rw [hf] at q
    cases d with
    | bl x =>
      cases x with
      | false =>
        refine fun I1 H1 g1 => iteF ⟨env, I1, r.grow g1, ?_⟩
        have q2 : PostT X.K W σ I H ((fb env).bind blR) Q := q
        cases hb : fb env with
        | ok d =>
          rw [hb] at q2
          cases d with
          | bl y => exact fun I2 H2 g2 => q2 I2 H2 (g1.trans g2)
          | _ => exact q2.elim
        | er c p =>
          rw [hb] at q2
          exact fun cls od I2 H2 g2 => q2 cls od I2 H2 (g1.trans g2)
        | no => rw [hb] at q2; exact q2.elim
      | true => exact fun I1 H1 g1 => iteT (q I1 H1 g1)
    | _ => exact q.elim
  | er c p => rw [hf] at q; exact q
  | no => rw [hf] at q; exact q.elim
theorem vw_and1 (h : VT X W A H0 a fa) : VW X W A H0 (.BoolOp .And [a] pos) fa := pw_and1 h
theorem vw_or1 (h : VT X W A H0 a fa) : VW X W A H0 (.BoolOp .Or [a] pos) fa := pw_or1 h
theorem vw_and {rest : List Expr} (h : VT X W A H0 a fa) (k : VW X W A H0 (.BoolOp .And (b :: rest) pos) fb) : VW X W A H0 (.BoolOp .And (a :: b :: rest) pos) (fAnd fa fb) := pw_imp (pw_and h k) fun _ _ _ z => vt_and_run z
theorem vw_or {rest : List Expr} (h : VT X W A H0 a fa) (k : VW X W A H0 (.BoolOp .Or (b :: rest) pos) fb) : VW X W A H0 (.BoolOp .Or (a :: b :: rest) pos) (fOr fa fb) := pw_imp (pw_or h k) fun _ _ _ z => vt_or_run z
theorem vt_w (h : VW X W A H0 e f) : VT X W A H0 e f := PW.pt h
def fNot (f : F) : F := f1 notD f
theorem vt_not (h : VT X W A H0 a fa) : VT X W A H0 (.UnaryOp .Not a pos) (fNot fa) := pt_imp (pt_not h) fun σ H Q ⟨env, I, r, q⟩ => ⟨env, I, r, by
  have q' : PostT X.K W σ I H ((fa env).bind notD) Q := q
  cases hf : fa env with
  | ok d =>
    rw [hf] at q'
    cases d <;> first | exact q' | exact q'.elim
  | er c p => rw [hf] at q'; exact q'
  | no => rw [hf] at q'; exact q'.elim⟩
theorem ve_not (h : VB X W A H0 a fa) : VE X W A H0 (.UnaryOp .Not a pos) (fNot fa) := pe_imp (pe_not h) fun σ H Q ⟨env, I, r, q⟩ => ⟨env, I, r, by
  have q' : PostE X.K W σ I H ((fa env).bind notD) Q := q
  cases hf : fa env with
  | ok d =>
    rw [hf] at q'
    cases d with
    | bl x =>
      intro v I' H' g k
      rw [k.bl_inv]
      exact ⟨x, rfl, q' _ I' H' g .bl⟩
    | _ => exact q'.elim
  | er c p => rw [hf] at q'; exact q'
  | no => rw [hf] at q'; exact q'.elim⟩
theorem ve_one {op : BoolOp} (h : VE X W A H0 a fa) : VE X W A H0 (.BoolOp op [a] pos) fa := pe_one h
theorem ve_and {rest : List Expr} (h : VB X W A H0 a fa) (k : VB X W A H0 (.BoolOp .And (b :: rest) pos) fb) : VE X W A H0 (.BoolOp .And (a :: b :: rest) pos) (fAnd fa fb) := pe_imp (pe_and h k) fun σ H Q ⟨env, I, r, q⟩ => ⟨env, I, r, by
  unfold fAnd at q
  cases hf : fa env with
  | ok d =>
    rw [hf] at q
    cases d with
    | bl x =>
      intro v I1 H1 g1 k1
      refine ⟨x, k1.bl_inv, ?_⟩
      cases x with
      | true =>
        refine iteT ⟨env, I1, r.grow g1, ?_⟩
        have q2 : PostE X.K W σ I H ((fb env).bind blR) Q := q
        cases hb : fb env with
        | ok d =>
          rw [hb] at q2
          cases d with
          | bl y => exact fun v I2 H2 g2 k2 => q2 v I2 H2 (g1.trans g2) (k2.sc_any rfl)
          | _ => exact q2.elim
        | er c p =>
          rw [hb] at q2
          exact fun cls od I2 H2 g2 => q2 cls od I2 H2 (g1.trans g2)
        | no => rw [hb] at q2; exact q2.elim
      | false => exact iteF (q _ I1 H1 g1 .bl)
    | _ => exact q.elim
  | er c p => rw [hf] at q; exact q
  | no => rw [hf] at q; exact q.elim⟩
theorem ve_or {rest : List Expr} (h : VB X W A H0 a fa) (k : VB X W A H0 (.BoolOp .Or (b :: rest) pos) fb) : VE X W A H0 (.BoolOp .Or (a :: b :: rest) pos) (fOr fa fb) := pe_imp (pe_or h k) fun σ H Q ⟨env, I, r, q⟩ => ⟨env, I, r, by
  unfold fOr at q
  cases hf : fa env with
  | ok d =>
    rw [hf] at q
    cases d with
    | bl x =>
      intro v I1 H1 g1 k1
      refine ⟨x, k1.bl_inv, ?_⟩
      cases x with
      | false =>
        refine iteF ⟨env, I1, r.grow g1, ?_⟩
        have q2 : PostE X.K W σ I H ((fb env).bind blR) Q := q
        cases hb : fb env with
        | ok d =>
          rw [hb] at q2
          cases d with
          | bl y => exact fun v I2 H2 g2 k2 => q2 v I2 H2 (g1.trans g2) (k2.sc_any rfl)
          | _ => exact q2.elim
        | er c p =>
          rw [hb] at q2
          exact fun cls od I2 H2 g2 => q2 cls od I2 H2 (g1.trans g2)
        | no => rw [hb] at q2; exact q2.elim
      | true => exact iteT (q _ I1 H1 g1 .bl)
    | _ => exact q.elim
  | er c p => rw [hf] at q; exact q
  | no => rw [hf] at q; exact q.elim⟩
theorem ve_if (hc : VT X W A H0 c fc) (ha : VE X W A H0 a fa) (hb : VE X W A H0 b fb) : VE X W A H0 (.IfExp c a b pos) (fIf fc fa fb) := pe_imp (pe_ifExp hc ha hb) fun σ H Q ⟨env, I, r, q⟩ => ⟨env, I, r, by
  unfold fIf at q
  cases hf : fc env with
  | ok d =>
    rw [hf] at q
    cases d with
    | bl x =>
      intro I1 H1 g1
      cases x with
      | true => exact iteT ⟨env, I1, r.grow g1, PostE.grow g1 q⟩
      | false => exact iteF ⟨env, I1, r.grow g1, PostE.grow g1 q⟩
    | _ => exact q.elim
  | er c p => rw [hf] at q; exact q
  | no => rw [hf] at q; exact q.elim⟩
theorem ve_neg (h : VB X W A H0 a fa) : VE X W A H0 (.UnaryOp .USub a pos) (f1 negD fa) := pe_imp (pe_un un_neg h) fun σ H Q ⟨env, I, r, q⟩ => ⟨env, I, r, by
  have q' : PostE X.K W σ I H ((fa env).bind negD) Q := q
  cases hf : fa env with
  | ok d =>
    rw [hf] at q'
    cases d with
    | int x =>
      intro v I' H' g k
      rw [k.int_inv]
      exact ⟨x, rfl, q' _ I' H' g .int⟩
    | _ => exact q'.elim
  | er c p => rw [hf] at q'; exact q'
  | no => rw [hf] at q'; exact q'.elim⟩
end
end BW
/-! BCore6: places, fields, displays, calls. -/
namespace BW
open PySem PySem.Spec PyProof.Rows L2
open Evl (Ex Ex.refl Ex.trans Ex.new ex_rd ex_l ex_t)
section
variable {K : PySem.W.Frag} {I H : Hp}
theorem ixN_lt {n : Nat} {i : Int} {j : Nat} (h : ixN n i = some j) : j < n := (ixN_seq h).2.1
theorem atI_rd {vs : List V} {ds : List D} (h : RdA K I vs ds) {i : Int} {d : D} (e : atI ds i = some d) : ∃ v, atI vs i = some v ∧ Rd K I v d := by
  unfold atI at e ⊢
  rw [h.length]
  cases q : ixN ds.length i with
  | none => rw [q] at e; cases e
  | some j =>
    rw [q] at e
    exact h.get (i := j) e
theorem atI_map {α β : Type} (f : α → β) (l : List α) (i : Int) : atI (l.map f) i = (atI l i).map f := by
  unfold atI
  rw [List.length_map]
  cases ixN l.length i with
  | none => rfl
  | some j =>
    show (l.map f)[j]? = (l[j]?).map f
    rw [List.getElem?_map]
theorem ner_ix : NoEr ixD := fun x y c p => by
  unfold ixD
  repeat' split
  all_goals exact fun z => nomatch z
theorem ix_str_inv {z : Str} {i : Int} {d : D} (e : ixD (.str z) (.int i) = .ok d) : z.length ≤ sizeLine ∧ ∃ c, atI z.cps.toList i = some c ∧ d = .str ⟨#[c]⟩ := by
  have e' : (if z.length ≤ sizeLine then (match atI z.cps.toList i with | some c => R.ok (D.str ⟨#[c]⟩) | none => .no) else R.no) = .ok d := e
  by_cases h : z.length ≤ sizeLine
  · rw [if_pos h] at e'
    cases q : atI z.cps.toList i with
    | none => rw [q] at e'; cases e'
    | some c =>
      rw [q] at e'
      exact ⟨h, c, rfl, (ok_inj e').symm⟩
  · rw [if_neg h] at e'
    cases e'
theorem go_ix : GOp K (rIx K) ixD := by
  intro x y dx dy d I H Q ih hx hy e q
  cases dx <;> cases dy <;> try (cases e; done)
  · rename_i z i
    obtain ⟨h, c, h1, rfl⟩ := ix_str_inv e
    rw [hx.str_inv, hy.int_inv]
    exact .inr (.inr ⟨z, i, c, rfl, rfl, h, h1, q _ I H (Grow.refl ih) .str⟩)
  · rename_i l i
    obtain ⟨a, vs, rfl, h1, h2⟩ := hx.lst_inv
    rw [hy.int_inv]
    have e' : (match atI l i with | some d => R.ok d | none => .no) = .ok d := e
    cases c : atI l i with
    | none => rw [c] at e'; cases e'
    | some d2 =>
      rw [c] at e'
      cases e'
      obtain ⟨v, k1, k2⟩ := atI_rd h2 c
      exact .inl ⟨a, vs, i, v, rfl, rfl, .inl (.inl (ih _ _ h1)), k1, q v I H (Grow.refl ih) k2⟩
  · rename_i l i
    obtain ⟨a, vs, rfl, h1, h2⟩ := hx.tup_inv
    rw [hy.int_inv]
    have e' : (match atI l i with | some d => R.ok d | none => .no) = .ok d := e
    cases c : atI l i with
    | none => rw [c] at e'; cases e'
    | some d2 =>
      rw [c] at e'
      cases e'
      obtain ⟨v, k1, k2⟩ := atI_rd h2 c
      exact .inr (.inl ⟨a, vs, i, v, rfl, rfl, (h1.mono ih).sq, k1, q v I H (Grow.refl ih) k2⟩)
  · rename_i l i
    obtain ⟨a, rfl, h1⟩ := hx.scr_inv
    rw [hy.int_inv]
    have e' : (match atI l i with | some d => R.ok (D.int d) | none => .no) = .ok d := e
    cases c : atI l i with
    | none => rw [c] at e'; cases e'
    | some d2 =>
      rw [c] at e'
      cases e'
      exact .inl ⟨a, _, i, .int d2, rfl, rfl, ex_l ih h1, by rw [atI_map, c]; rfl, q _ I H (Grow.refl ih) .int⟩
end
section
variable {X : Cx} {W : WX} {A H0 : Hp} {a b c e : Expr} {fa fb fc f : F} {pos : Pos}
theorem ve_ix (ha : VE X W A H0 a fa) (hb : VE X W A H0 b fb) (hs : PlainIx b := by exact fun _ _ => rfl) : VE X W A H0 (.Subscript a b pos) (f2 ixD fa fb) := pe_imp (pe_ix ix_seq ha hb hs) fun _ _ _ h => opg_run go_ix ner_ix h
/-- an item of a list whose content is told -/
theorem ve_ixC (ha : VL X W A H0 a fa) (hb : VE X W A H0 b fb) (hs : PlainIx b := by exact fun _ _ => rfl) : VE X W A H0 (.Subscript a b pos) (f2 ixD (fLs fa) fb) := pe_imp (pe_ix ix_list ha hb hs) fun σ H Q ⟨env, I, rl, q⟩ => ⟨env, I, rl, by
  have q1 : PostE X.K W σ I H (((fa env).bind lsD).bind fun x => (fb env).bind fun y => ixD x y) Q := q
  cases hf : fa env with
  | ok dx =>
    rw [hf] at q1
    cases dx with
    | lst l =>
      refine fun p vs I1 H1 g1 k1 k2 => ⟨env, I1, rl.grow g1, ?_⟩
      have q2 : PostE X.K W σ I H ((fb env).bind fun y => ixD (.lst l) y) Q := q1
      cases hs2 : fb env with
      | ok dy =>
        rw [hs2] at q2
        refine fun y I2 H2 g2 k3 => ?_
        have q3 : PostE X.K W σ I H (ixD (.lst l) dy) Q := q2
        cases dy with
        | int i =>
          rw [k3.int_inv]
          have q4 : PostE X.K W σ I H (match atI l i with | some d => R.ok d | none => .no) Q := q3
          cases c : atI l i with
          | none => rw [c] at q4; exact q4.elim
          | some d =>
            rw [c] at q4
            obtain ⟨v, k4, k5⟩ := atI_rd k2 c
            exact ⟨p, vs, i, v, rfl, rfl, .inl (.inl (g2.h _ _ k1)), k4, q4 v I2 H2 (g1.trans g2) (k5.mono g2.i)⟩
        | _ => exact q3.elim
      | er c p =>
        rw [hs2] at q2
        exact fun cls od I2 H2 g2 k2 => q2 cls od I2 H2 (g1.trans g2) k2
      | no => rw [hs2] at q2; exact q2.elim
    | _ => exact q1.elim
  | er c p => rw [hf] at q1; exact q1
  | no => rw [hf] at q1; exact q1.elim⟩

/-! ### fields -/
theorem zip_lookup {K : PySem.W.Frag} {I : Hp} {f : Str} : ∀ {ns : List Str} {vs : List V} {ds : List D}, RdA K I vs ds → ∀ {d : D}, (ns.zip ds).lookup f = some d → ∃ v, (ns.zip vs).lookup f = some v ∧ Rd K I v d
  | [], _, _, _, d, e => by simp at e
  | _ :: _, _, _, .nil, d, e => by simp at e
  | n :: ns, _, _, .cons h q, d, e => by
    rw [List.zip_cons_cons, List.lookup_cons] at e
    rw [List.zip_cons_cons, List.lookup_cons]
    cases z : f == n with
    | true =>
      rw [z] at e
      cases e
      exact ⟨_, rfl, h⟩
    | false =>
      rw [z] at e
      exact zip_lookup q e
def atD (c : Nat) (f : Str) : D → R D
  | .obj k l => if k = c then (match ((fns c).zip l).lookup f with
    | some d => .ok d
    | none => .no) else .no
  | _ => .no
theorem ve_at (c : Nat) {n : Str} (cl : Cls X.K (CL X.K c)) (na : NoAttr X.K (CL X.K c) n) (h : VE X W A H0 a fa) (hb : attributeBase a n X.env (eval a X.env) = eval a X.env := by rfl) : VE X W A H0 (.Attribute a n pos) (f1 (atD c n) fa) :=
  pe_imp (pe_fld h hb) fun σ H Q ⟨env, I, rl, q⟩ => ⟨env, I, rl, by
    have q1 : PostE X.K W σ I H ((fa env).bind (atD c n)) Q := q
    cases hf : fa env with
    | ok dx =>
      rw [hf] at q1
      cases dx with
      | obj k l =>
        intro v I' H' g kk
        obtain ⟨p, dx, vs, rfl, h1, h2, h3⟩ := kk.obj_inv
        have q2 : PostE X.K W σ I H (if k = c then (match ((fns c).zip l).lookup n with | some d => R.ok d | none => .no) else .no) Q := q1
        by_cases hk : k = c
        · subst hk
          rw [if_pos rfl] at q2
          cases hl : ((fns k).zip l).lookup n with
          | none => rw [hl] at q2; exact q2.elim
          | some d =>
            rw [hl] at q2
            obtain ⟨v, k1, k2⟩ := zip_lookup h3 hl
            exact ⟨p, _, dx, _, v, rfl, g.ih _ _ h1, cl, na, k1, q2 v I' H' g k2⟩
        · rw [if_neg hk] at q2
          exact q2.elim
      | _ => exact q1.elim
    | er c p => rw [hf] at q1; exact q1
    | no => rw [hf] at q1; exact q1.elim⟩

/-! ### displays -/
theorem ArgsOk.strict {K : PySem.W.Frag} {I H : Hp} : ∀ {fl : List Bool} {vs : List V} {ds : List D}, ArgsOk K I H fl vs ds → fl.all id = true → RdA K I vs ds
  | _, _, _, .nil, _ => .nil
  | _, _, _, .st h q, e => .cons h (ArgsOk.strict q (by simpa using e))
  | _, _, _, .lo h q, e => by simp at e
def tupD (l : List D) : R D := .ok (.tup l)
def lstD (l : List D) : R D := .ok (.lst l)
theorem ve_tup {es : List Expr} {fl : List Bool} {fs : FA} {x1} (h : VA X W A H0 es fl fs) (hf : fl.all id = true := by rfl) (hl : fl.length ≤ 1000 := by decide) : VE X W A H0 (.Tuple es x1 pos) (fA tupD fs) := pe_imp (pe_tupN h) fun σ H Q ⟨env, I, rl, q⟩ => ⟨env, I, rl, by
  have q1 : PostE X.K W σ I H ((fs env).bind tupD) Q := q
  cases hs : fs env with
  | ok ds =>
    rw [hs] at q1
    refine fun vs I1 H1 g1 k1 => ⟨Nat.le_trans (by rw [k1.length]; exact hl) (by decide), fun p ob hp hd => ?_⟩
    exact q1 (.ref p) _ _ (g1.trans (Grow.push g1.ih hp)) (.tup (.new hd) ((k1.strict hf).mono (Ex.new (Evl.fresh_back g1.ih hp))))
  | er c p => rw [hs] at q1; exact q1
  | no => rw [hs] at q1; exact q1.elim⟩
theorem vf_lst {es : List Expr} {fl : List Bool} {fs : FA} (h : VA X W A H0 es fl fs) (hf : fl.all id = true := by rfl) (hl : fl.length ≤ 1000 := by decide) : VF X W A H0 (.List es pos) (fA lstD fs) := pe_imp (pe_lst h) fun σ H Q ⟨env, I, rl, q⟩ => ⟨env, I, rl, by
  have q1 : PostF X.K W σ I H ((fs env).bind lstD) Q := q
  cases hs : fs env with
  | ok ds =>
    rw [hs] at q1
    refine fun vs I1 H1 g1 k1 => ⟨Nat.le_trans (by rw [k1.length]; exact hl) (by decide), fun p hp => ?_⟩
    have h0 : I1 p = none := Evl.fresh_back g1.ih hp
    exact q1 p vs I1 _ (g1.trans (Grow.hid g1.ih (Ex.new hp))) (Evl.fresh_back g1.h hp) h0 upd_same (k1.strict hf)
  | er c p => rw [hs] at q1; exact q1
  | no => rw [hs] at q1; exact q1.elim⟩

/-! ### own defs -/
def spF (K : PySem.W.Frag) (fl : List Bool) (m : List D → R D) : Sp := fun vs H Q E => ∃ ds I, Ex I H ∧ ArgsOk K I H fl vs ds ∧ PostE K (fun cls od _ H' => E cls od H') [] I H (m ds) Q
/-- .. that hands back a new list -/
def spN (K : PySem.W.Frag) (fl : List Bool) (m : List D → R D) : Sp := fun vs H Q E => ∃ ds I, Ex I H ∧ ArgsOk K I H fl vs ds ∧ PostF K (fun cls od _ H' => E cls od H') [] I H (m ds) Q
theorem ve_call {x : Str} {k : Nat} {g : Addr} {fd : FuncData} {ps : List Str} {fl : List Bool} {m : List D → R D} {es : List Expr} {fs : FA} {p : Pos} (Fn : FnOk X.prog X.w X.K X.mg X.base (L2.CX X.prog X.w) k g fd ps (spF X.K fl m)) (hr : Room k X.A) (tk : Takes X W) (hm : X.mg x = some (.ref g)) (hk : PySem.W.keepIn X.K (.ref g) = true) (hb : Binds X.K fd ps [])
    (ha : VA X W A H0 (e :: es) fl fs) (hg : Gl X x := by rfl) (hdb : (x == ("__debug__" : Str)) = false := by decide) (he : starEach (e :: es) X.env = (false, eval e X.env) :: starEach es X.env := by rfl) (hpl : (backTo pos (starEach es X.env)).any (·.1) = false := by rfl) :
    VE X W A H0 (.Call (.Name x p) (e :: es) [] pos) (fA m fs) := pe_imp (pe_callS Fn hr hg hm hk hb (fun σ => passAt tk σ) ha hdb he hpl) fun σ H Q ⟨env, I, rl, q⟩ => ⟨env, I, rl, by
  have q1 : PostE X.K W σ I H ((fs env).bind m) Q := q
  cases hs : fs env with
  | ok ds =>
    rw [hs] at q1
    refine fun vs I1 H1 g1 k1 => ⟨ds, I1, g1.ih, k1, ?_⟩
    have q2 : PostE X.K W σ I H (m ds) Q := q1
    cases hmd : m ds with
    | ok d => rw [hmd] at q2; exact fun v I2 H2 g2 k2 => q2 v I2 H2 (g1.trans g2) k2
    | er c p => rw [hmd] at q2; exact fun cls od I2 H2 g2 k2 => q2 cls od I2 H2 (g1.trans g2) k2
    | no => rw [hmd] at q2; exact q2.elim
  | er c p => rw [hs] at q1; exact q1
  | no => rw [hs] at q1; exact q1.elim⟩
theorem vf_call {x : Str} {k : Nat} {g : Addr} {fd : FuncData} {ps : List Str} {fl : List Bool} {m : List D → R D} {es : List Expr} {fs : FA} {p : Pos} (Fn : FnOk X.prog X.w X.K X.mg X.base (L2.CX X.prog X.w) k g fd ps (spN X.K fl m)) (hr : Room k X.A) (tk : Takes X W) (hm : X.mg x = some (.ref g)) (hk : PySem.W.keepIn X.K (.ref g) = true) (hb : Binds X.K fd ps [])
    (ha : VA X W A H0 (e :: es) fl fs) (hg : Gl X x := by rfl) (hdb : (x == ("__debug__" : Str)) = false := by decide) (he : starEach (e :: es) X.env = (false, eval e X.env) :: starEach es X.env := by rfl) (hpl : (backTo pos (starEach es X.env)).any (·.1) = false := by rfl) :
    VF X W A H0 (.Call (.Name x p) (e :: es) [] pos) (fA m fs) := pe_imp (pe_callS Fn hr hg hm hk hb (fun σ => passAt tk σ) ha hdb he hpl) fun σ H Q ⟨env, I, rl, q⟩ => ⟨env, I, rl, by
  have q1 : PostF X.K W σ I H ((fs env).bind m) Q := q
  cases hs : fs env with
  | ok ds =>
    rw [hs] at q1
    refine fun vs I1 H1 g1 k1 => ⟨ds, I1, g1.ih, k1, ?_⟩
    have q2 : PostF X.K W σ I H (m ds) Q := q1
    cases hmd : m ds with
    | ok d =>
      rw [hmd] at q2
      cases d with
      | lst l => exact fun a vs I2 H2 g2 h0 h1 h2 h3 => q2 a vs I2 H2 (g1.trans g2) (Evl.fresh_back g1.h h0) h1 h2 h3
      | _ => exact q2.elim
    | er c p => rw [hmd] at q2; exact fun cls od I2 H2 g2 k2 => q2 cls od I2 H2 (g1.trans g2) k2
    | no => rw [hmd] at q2; exact q2.elim
  | er c p => rw [hs] at q1; exact q1
  | no => rw [hs] at q1; exact q1.elim⟩
/-- a promise of a new list is one of a list -/
theorem FnOk.forget {P : Program} {w : World} {K : PySem.W.Frag} {mg : Str → Option Value} {base : Heap} {CX : CXT} {k : Nat} {f : Addr} {fd : FuncData} {ps : List Str} {fl : List Bool} {m : List D → R D} (h : FnOk P w K mg base CX k f fd ps (spN K fl m)) : FnOk P w K mg base CX k f fd ps (spF K fl fun ds => (m ds).bind lsD) := h.imp fun vs H Q E ⟨ds, I, e, a, q⟩ => ⟨ds, I, e, a, by
  have q1 : PostE K (fun cls od _ H' => E cls od H') [] I H ((m ds).bind lsD) Q := q
  cases hmd : m ds with
  | ok d =>
    rw [hmd] at q1
    cases d with
    | lst l => exact fun a vs I' H' g h0 hi h1 h2 => q1 (.ref a) (upd I' a (.lst vs)) H' (g.add h0 hi h1) (.lst upd_same (h2.mono (Ex.new hi)))
    | _ => exact q1.elim
  | er c p => rw [hmd] at q1; exact q1
  | no => rw [hmd] at q1; exact q1.elim⟩

/-! ### built-in functions -/
/-- what a built-in does with its arguments -/
def GC (K : PySem.W.Frag) (r : List V → Hp → VK → Prop) (fl : List Bool) (g : List D → R D) : Prop := ∀ (vs : List V) (ds : List D) (d : D) (I H : Hp) (Q : VK), Ex I H → ArgsOk K I H fl vs ds → g ds = .ok d → (∀ v I' H', Grow I H I' H' → Rd K I' v d → Q v H') → r vs H Q
def GCF (K : PySem.W.Frag) (r : List V → Hp → VK → Prop) (fl : List Bool) (g : List D → R D) : Prop := ∀ (vs : List V) (ds : List D) (d : D) (I H : Hp) (Q : VK), Ex I H → ArgsOk K I H fl vs ds → g ds = .ok d → ∃ l, d = .lst l ∧ ((∀ a us I' H', Grow I H I' H' → H a = none → I' a = none → H' a = some (.lst us) → RdA K I' us l → Q (.ref a) H') → r vs H Q)
def NoErA (g : List D → R D) : Prop := ∀ ds c p, g ds ≠ .er c p
theorem gc_run {r : List V → Hp → VK → Prop} {fl : List Bool} {g : List D → R D} {fs : FA} (hg : GC X.K r fl g) (hn : NoErA g) {σ : L2.St} {H : Hp} {Q : VK} (h : rdE X.K W A H0 (fA g fs) σ H Q) : tCB r (rdA X.K W A H0 fl fs) σ H Q := by
  obtain ⟨env, I, rl, q⟩ := h
  refine ⟨env, I, rl, ?_⟩
  have q1 : PostE X.K W σ I H ((fs env).bind g) Q := q
  cases hs : fs env with
  | ok ds =>
    rw [hs] at q1
    intro vs I1 H1 g1 k1
    have q2 : PostE X.K W σ I H (g ds) Q := q1
    cases hmd : g ds with
    | ok d => rw [hmd] at q2; exact hg vs ds d I1 H1 Q g1.ih k1 hmd fun v I2 H2 g2 k2 => q2 v I2 H2 (g1.trans g2) k2
    | er c p => exact absurd hmd (hn ds c p)
    | no => rw [hmd] at q2; exact q2.elim
  | er c p => rw [hs] at q1; exact q1
  | no => rw [hs] at q1; exact q1.elim
theorem gcf_run {r : List V → Hp → VK → Prop} {fl : List Bool} {g : List D → R D} {fs : FA} (hg : GCF X.K r fl g) (hn : NoErA g) {σ : L2.St} {H : Hp} {Q : VK} (h : rdF X.K W A H0 (fA g fs) σ H Q) : tCB r (rdA X.K W A H0 fl fs) σ H Q := by
  obtain ⟨env, I, rl, q⟩ := h
  refine ⟨env, I, rl, ?_⟩
  have q1 : PostF X.K W σ I H ((fs env).bind g) Q := q
  cases hs : fs env with
  | ok ds =>
    rw [hs] at q1
    intro vs I1 H1 g1 k1
    have q2 : PostF X.K W σ I H (g ds) Q := q1
    cases hmd : g ds with
    | ok d =>
      rw [hmd] at q2
      obtain ⟨l, rfl, z⟩ := hg vs ds d I1 H1 Q g1.ih k1 hmd
      exact z fun a us I2 H2 g2 h0 h1 h2 h3 => q2 a us I2 H2 (g1.trans g2) (Evl.fresh_back g1.h h0) h1 h2 h3
    | er c p => exact absurd hmd (hn ds c p)
    | no => rw [hmd] at q2; exact q2.elim
  | er c p => rw [hs] at q1; exact q1
  | no => rw [hs] at q1; exact q1.elim
section
variable {x : Str} {id T : String} {es : List Expr} {p : Pos} {r : List V → Hp → VK → Prop} {fl : List Bool} {g : List D → R D} {fs : FA}
theorem ve_blt (hc : CallR X (.builtin id) r) (hG : GC X.K r fl g) (hn : NoErA g) (hm : X.mg x = none) (hv : bootBuiltins x = some (.builtin id)) (ha : VA X W A H0 (e :: es) fl fs) (hg : Gl X x := by rfl) (hnm : x ≠ "__name__" := by decide) (hdb : (x == ("__debug__" : Str)) = false := by decide)
    (he : starEach (e :: es) X.env = (false, eval e X.env) :: starEach es X.env := by rfl) (hpl : (backTo pos (starEach es X.env)).any (·.1) = false := by rfl) : VE X W A H0 (.Call (.Name x p) (e :: es) [] pos) (fA g fs) := pe_imp (pe_callB hc hg hm hv ha hnm hdb he hpl) fun _ _ _ h => gc_run hG hn h
theorem vf_blt (hc : CallR X (.builtin id) r) (hG : GCF X.K r fl g) (hn : NoErA g) (hm : X.mg x = none) (hv : bootBuiltins x = some (.builtin id)) (ha : VA X W A H0 (e :: es) fl fs) (hg : Gl X x := by rfl) (hnm : x ≠ "__name__" := by decide) (hdb : (x == ("__debug__" : Str)) = false := by decide)
    (he : starEach (e :: es) X.env = (false, eval e X.env) :: starEach es X.env := by rfl) (hpl : (backTo pos (starEach es X.env)).any (·.1) = false := by rfl) : VF X W A H0 (.Call (.Name x p) (e :: es) [] pos) (fA g fs) := pe_imp (pe_callB hc hg hm hv ha hnm hdb he hpl) fun _ _ _ h => gcf_run hG hn h
theorem ve_bty (hc : CallR X (.type T) r) (hG : GC X.K r fl g) (hn : NoErA g) (hm : X.mg x = none) (hv : bootBuiltins x = some (.type T)) (ha : VA X W A H0 (e :: es) fl fs) (hg : Gl X x := by rfl) (hnm : x ≠ "__name__" := by decide) (hdb : (x == ("__debug__" : Str)) = false := by decide)
    (he : starEach (e :: es) X.env = (false, eval e X.env) :: starEach es X.env := by rfl) (hpl : (backTo pos (starEach es X.env)).any (·.1) = false := by rfl) : VE X W A H0 (.Call (.Name x p) (e :: es) [] pos) (fA g fs) := pe_imp (pe_callTy hc hg hm hv ha hnm hdb he hpl) fun _ _ _ h => gc_run hG hn h
theorem vf_bty (hc : CallR X (.type T) r) (hG : GCF X.K r fl g) (hn : NoErA g) (hm : X.mg x = none) (hv : bootBuiltins x = some (.type T)) (ha : VA X W A H0 (e :: es) fl fs) (hg : Gl X x := by rfl) (hnm : x ≠ "__name__" := by decide) (hdb : (x == ("__debug__" : Str)) = false := by decide)
    (he : starEach (e :: es) X.env = (false, eval e X.env) :: starEach es X.env := by rfl) (hpl : (backTo pos (starEach es X.env)).any (·.1) = false := by rfl) : VF X W A H0 (.Call (.Name x p) (e :: es) [] pos) (fA g fs) := pe_imp (pe_callTy hc hg hm hv ha hnm hdb he hpl) fun _ _ _ h => gcf_run hG hn h
end
end
end BW
/-! BCore7: built-in functions. -/
namespace BW
open PySem PySem.Spec PyProof.Rows L2
open Evl (Ex Ex.refl Ex.trans Ex.new ex_rd ex_l ex_t)

def lenD : List D → R D
  | [.lst l] => .ok (.int (l.length : Nat))
  | [.tup l] => .ok (.int (l.length : Nat))
  | [.scr l] => .ok (.int (l.length : Nat))
  | [.str z] => if z.length ≤ sizeLine then .ok (.int (z.length : Nat)) else .no
  | _ => .no
def absD : List D → R D
  | [.int i] => .ok (.int (if i < 0 then -i else i))
  | _ => .no
def intD : List D → R D
  | [.int i] => .ok (.int i)
  | [.bl b] => .ok (.int (if b then 1 else 0))
  | _ => .no
def boolD : List D → R D
  | [.int i] => .ok (.bl (i != 0))
  | [.bl b] => .ok (.bl b)
  | _ => .no
def strD : List D → R D
  | [.int i] => if i.natAbs.log2 < 1920 then .ok (.str (toString i)) else .no
  | _ => .no
def intsD : List D → Option (List Int)
  | [] => some []
  | .int i :: r => (intsD r).map fun ns => i :: ns
  | _ => none
def boolsD : List D → Option (List Bool)
  | [] => some []
  | .bl i :: r => (boolsD r).map fun ns => i :: ns
  | _ => none
def listInts : D → Option (List Int)
  | .lst l => intsD l
  | .scr ns => some ns
  | _ => none
def sumD : List D → R D
  | [x] => match listInts x with
    | some ns => .ok (.int ns.sum)
    | none => .no
  | _ => .no
def maxL : List Int → Int
  | [] => 0
  | n :: ns => ns.foldl max n
def minL : List Int → Int
  | [] => 0
  | n :: ns => ns.foldl min n
def maxD : List D → R D
  | [.int i, .int j] => .ok (.int (if j > i then j else i))
  | [x] => match listInts x with
    | some (n :: ns) => .ok (.int (maxL (n :: ns)))
    | _ => .no
  | _ => .no
def minD : List D → R D
  | [.int i, .int j] => .ok (.int (if j < i then j else i))
  | [x] => match listInts x with
    | some (n :: ns) => .ok (.int (minL (n :: ns)))
    | _ => .no
  | _ => .no
/-- rising order -/
def insI (x : Int) : List Int → List Int
  | [] => [x]
  | y :: r => if x ≤ y then x :: y :: r else y :: insI x r
def sortI : List Int → List Int
  | [] => []
  | x :: r => insI x (sortI r)
def sortedD : List D → R D
  | [x] => match listInts x with
    | some ns => .ok (.lst ((sortI ns).map D.int))
    | none => .no
  | _ => .no
def allD : List D → R D
  | [.lst l] => match boolsD l with
    | some bs => .ok (.bl (bs.all id))
    | none => .no
  | _ => .no
def anyD : List D → R D
  | [.lst l] => match boolsD l with
    | some bs => .ok (.bl (bs.any id))
    | none => .no
  | _ => .no
def listD : List D → R D
  | [.lst l] => .ok (.lst l)
  | [.tup l] => .ok (.lst l)
  | [.scr l] => .ok (.lst (l.map D.int))
  | _ => .no
def tupleD : List D → R D
  | [.lst l] => .ok (.tup l)
  | [.tup l] => .ok (.tup l)
  | _ => .no

section
variable {K : PySem.W.Frag} {I H : Hp}
theorem ints_rd : ∀ {vs : List V} {l : List D} {ns : List Int}, RdA K I vs l → intsD l = some ns → vs = ns.map V.int ∧ l = ns.map D.int
  | _, _, ns, .nil, e => by
    have e' : some ([] : List Int) = some ns := e
    cases e'
    exact ⟨rfl, rfl⟩
  | _, _, ns, .cons (d := d) (ds := r) h q, e => by
    cases d <;> try (cases e; done)
    rename_i i
    have e' : ((intsD r).map fun ns => i :: ns) = some ns := e
    obtain ⟨ms, e1, e2⟩ := Option.map_eq_some_iff.mp e'
    obtain ⟨k1, k2⟩ := ints_rd q e1
    rw [← e2, k1, k2, h.int_inv]
    exact ⟨rfl, rfl⟩
theorem ints_map : ∀ ns : List Int, intsD (ns.map D.int) = some ns
  | [] => rfl
  | n :: ns => by
    show ((intsD (ns.map D.int)).map fun ns => n :: ns) = _
    rw [ints_map ns]
    rfl
theorem bools_rd : ∀ {vs : List V} {l : List D} {ns : List Bool}, RdA K I vs l → boolsD l = some ns → vs = ns.map V.bl
  | _, _, ns, .nil, e => by
    have e' : some ([] : List Bool) = some ns := e
    cases e'
    rfl
  | _, _, ns, .cons (d := d) (ds := r) h q, e => by
    cases d <;> try (cases e; done)
    rename_i i
    have e' : ((boolsD r).map fun ns => i :: ns) = some ns := e
    obtain ⟨ms, e1, e2⟩ := Option.map_eq_some_iff.mp e'
    rw [← e2, bools_rd q e1, h.bl_inv]
    rfl
theorem bools_map : ∀ ns : List Bool, boolsD (ns.map D.bl) = some ns
  | [] => rfl
  | n :: ns => by
    show ((boolsD (ns.map D.bl)).map fun ns => n :: ns) = _
    rw [bools_map ns]
    rfl
theorem listInts_rd {v : V} {d : D} {ns : List Int} (h : Rd K H v d) (e : listInts d = some ns) : ∃ a, v = .ref a ∧ SqL K H a (ns.map V.int) := by
  cases h <;> try (cases e; done)
  · rename_i h1 h2
    have k := (ints_rd h2 e).1
    rw [k] at h1
    exact ⟨_, rfl, .inl (.inl h1)⟩
  · rename_i h1
    cases e
    exact ⟨_, rfl, h1⟩
theorem args1 {vs : List V} {x : D} (h : ArgsOk K I H [false] vs [x]) : ∃ v, vs = [v] ∧ Rd K H v x := by
  cases h with
  | lo h q => cases q; exact ⟨_, rfl, h⟩
theorem args1s {vs : List V} {x : D} (h : ArgsOk K I H [true] vs [x]) : ∃ v, vs = [v] ∧ Rd K I v x := by
  cases h with
  | st h q => cases q; exact ⟨_, rfl, h⟩
theorem args2 {vs : List V} {x y : D} (h : ArgsOk K I H [false, false] vs [x, y]) : ∃ v w, vs = [v, w] ∧ Rd K H v x ∧ Rd K H w y := by
  cases h with
  | lo h q => cases q with
    | lo h2 q2 => cases q2; exact ⟨_, _, rfl, h, h2⟩
theorem argsLen {fl : List Bool} {vs : List V} {ds : List D} (h : ArgsOk K I H fl vs ds) : ds.length = fl.length := by
  induction h with
  | nil => rfl
  | st _ _ ih => exact congrArg (· + 1) ih
  | lo _ _ ih => exact congrArg (· + 1) ih
theorem one_of {ds : List D} (h : ds.length = 1) : ∃ x, ds = [x] := by
  match ds, h with
  | [x], _ => exact ⟨x, rfl⟩
theorem two_of {ds : List D} (h : ds.length = 2) : ∃ x y, ds = [x, y] := by
  match ds, h with
  | [x, y], _ => exact ⟨x, y, rfl⟩
/-- one loose argument, a scalar answer -/
theorem gc1 {r : List V → Hp → VK → Prop} {g : List D → R D} (h : ∀ (v : V) (x d : D) (H : Hp) (Q : VK), Rd K H v x → g [x] = .ok d → ∃ w, d.sc = some w ∧ (Q w H → r [v] H Q)) : GC K r [false] g := by
  intro vs ds d I H Q ih ha e q
  obtain ⟨x, rfl⟩ := one_of (argsLen ha)
  obtain ⟨v, rfl, hv⟩ := args1 ha
  obtain ⟨w, e1, k⟩ := h v x d H Q hv e
  exact k (q w I H (Grow.refl ih) (.of_sc e1))
theorem gc2 {r : List V → Hp → VK → Prop} {g : List D → R D} (h : ∀ (v u : V) (x y d : D) (H : Hp) (Q : VK), Rd K H v x → Rd K H u y → g [x, y] = .ok d → ∃ w, d.sc = some w ∧ (Q w H → r [v, u] H Q)) : GC K r [false, false] g := by
  intro vs ds d I H Q ih ha e q
  obtain ⟨x, y, rfl⟩ := two_of (argsLen ha)
  obtain ⟨v, u, rfl, hv, hu⟩ := args2 ha
  obtain ⟨w, e1, k⟩ := h v u x y d H Q hv hu e
  exact k (q w I H (Grow.refl ih) (.of_sc e1))
theorem gc_len : GC K (fun xs H Q => ∃ x n, xs = [x] ∧ LenV K x H n ∧ Q (.int n) H) [false] lenD := gc1 fun v x d H Q hv e => by
  cases x <;> try (cases e; done)
  · rename_i z
    rw [hv.str_inv]
    obtain ⟨c, e2⟩ := ite_ok e
    rw [← e2]
    exact ⟨_, rfl, fun q => ⟨_, _, rfl, ⟨c, rfl⟩, q⟩⟩
  · obtain ⟨a, vs, rfl, h1, h2⟩ := hv.lst_inv
    rw [← ok_inj e]
    exact ⟨_, rfl, fun q => ⟨_, _, rfl, .inl ⟨vs, .inl (.inl h1), h2.length.symm⟩, q⟩⟩
  · obtain ⟨a, vs, rfl, h1, h2⟩ := hv.tup_inv
    rw [← ok_inj e]
    exact ⟨_, rfl, fun q => ⟨_, _, rfl, .inr ⟨vs, h1.sq, h2.length.symm⟩, q⟩⟩
  · rename_i l
    obtain ⟨a, rfl, h1⟩ := hv.scr_inv
    rw [← ok_inj e]
    exact ⟨_, rfl, fun q => ⟨_, _, rfl, .inl ⟨_, h1, (List.length_map (f := V.int) (as := l)).symm⟩, q⟩⟩
theorem gc_abs : GC K (fun xs H Q => ∃ i, xs = [.int i] ∧ Q (.int (if i < 0 then -i else i)) H) [false] absD := gc1 fun v x d H Q hv e => by
  cases x <;> try (cases e; done)
  rw [hv.int_inv, ← ok_inj e]
  exact ⟨_, rfl, fun q => ⟨_, rfl, q⟩⟩
theorem gc_int : GC K (fun xs H Q => (∃ i, xs = [.int i] ∧ Q (.int i) H) ∨ ∃ k, xs = [.bl k] ∧ Q (.int (if k then 1 else 0)) H) [false] intD := gc1 fun v x d H Q hv e => by
  cases x <;> try (cases e; done)
  · rw [hv.bl_inv, ← ok_inj e]
    exact ⟨_, rfl, fun q => .inr ⟨_, rfl, q⟩⟩
  · rw [hv.int_inv, ← ok_inj e]
    exact ⟨_, rfl, fun q => .inl ⟨_, rfl, q⟩⟩
theorem gc_bool : GC K (fun xs H Q => (∃ i, xs = [.int i] ∧ Q (.bl (i != 0)) H) ∨ ∃ k, xs = [.bl k] ∧ Q (.bl k) H) [false] boolD := gc1 fun v x d H Q hv e => by
  cases x <;> try (cases e; done)
  · rw [hv.bl_inv, ← ok_inj e]
    exact ⟨_, rfl, fun q => .inr ⟨_, rfl, q⟩⟩
  · rw [hv.int_inv, ← ok_inj e]
    exact ⟨_, rfl, fun q => .inl ⟨_, rfl, q⟩⟩
theorem gc_str : GC K (fun xs H Q => ∃ i, xs = [.int i] ∧ i.natAbs.log2 < 1920 ∧ Q (.str (toString i)) H) [false] strD := gc1 fun v x d H Q hv e => by
  cases x <;> try (cases e; done)
  rw [hv.int_inv]
  obtain ⟨c, e2⟩ := ite_ok e
  rw [← e2]
  exact ⟨_, rfl, fun q => ⟨_, rfl, c, q⟩⟩
theorem gc_sum : GC K (rSum K) [false] sumD := gc1 fun v x d H Q hv e => by
  cases h : listInts x with
  | none =>
    have e' : (match listInts x with | some ns => R.ok (D.int ns.sum) | none => .no) = .ok d := e
    rw [h] at e'
    cases e'
  | some ns =>
    have e' : (match listInts x with | some ns => R.ok (D.int ns.sum) | none => .no) = .ok d := e
    rw [h] at e'
    obtain ⟨a, rfl, k⟩ := listInts_rd hv h
    rw [← ok_inj e']
    exact ⟨_, rfl, fun q => ⟨a, ns, rfl, k, q⟩⟩
theorem foldl_max : ∀ (ns : List Int) (n : Int), (∀ y, y ∈ n :: ns → y ≤ ns.foldl max n) ∧ ns.foldl max n ∈ n :: ns
  | [], n => ⟨fun y h => by simp at h; simp [h], by simp⟩
  | m :: ns, n => by
    obtain ⟨h1, h2⟩ := foldl_max ns (max n m)
    refine ⟨fun y h => ?_, ?_⟩
    · rw [List.foldl_cons]
      have h3 := h1 (max n m) List.mem_cons_self
      rcases List.mem_cons.mp h with rfl | h
      · omega
      · rcases List.mem_cons.mp h with rfl | h
        · omega
        · exact h1 y (List.mem_cons_of_mem _ h)
    · rw [List.foldl_cons]
      rcases List.mem_cons.mp h2 with h | h
      · rw [h]
        by_cases c : n ≤ m
        · rw [Int.max_eq_right c]
          simp
        · rw [Int.max_eq_left (by omega)]
          simp
      · exact List.mem_cons_of_mem _ (List.mem_cons_of_mem _ h)
theorem foldl_min : ∀ (ns : List Int) (n : Int), (∀ y, y ∈ n :: ns → ns.foldl min n ≤ y) ∧ ns.foldl min n ∈ n :: ns
  | [], n => ⟨fun y h => by simp at h; simp [h], by simp⟩
  | m :: ns, n => by
    obtain ⟨h1, h2⟩ := foldl_min ns (min n m)
    refine ⟨fun y h => ?_, ?_⟩
    · rw [List.foldl_cons]
      have h3 := h1 (min n m) List.mem_cons_self
      rcases List.mem_cons.mp h with rfl | h
      · omega
      · rcases List.mem_cons.mp h with rfl | h
        · omega
        · exact h1 y (List.mem_cons_of_mem _ h)
    · rw [List.foldl_cons]
      rcases List.mem_cons.mp h2 with h | h
      · rw [h]
        by_cases c : n ≤ m
        · rw [Int.min_eq_left c]
          simp
        · rw [Int.min_eq_right (by omega)]
          simp
      · exact List.mem_cons_of_mem _ (List.mem_cons_of_mem _ h)
theorem max_inv {x d : D} (e : maxD [x] = .ok d) : ∃ n ns, listInts x = some (n :: ns) ∧ d = .int (maxL (n :: ns)) := by
  have e' : (match listInts x with | some (n :: ns) => R.ok (D.int (maxL (n :: ns))) | _ => .no) = .ok d := by cases x <;> exact e
  cases h : listInts x with
  | none => rw [h] at e'; cases e'
  | some l =>
    rw [h] at e'
    cases l with
    | nil => cases e'
    | cons n ns => exact ⟨n, ns, rfl, (ok_inj e').symm⟩
theorem min_inv {x d : D} (e : minD [x] = .ok d) : ∃ n ns, listInts x = some (n :: ns) ∧ d = .int (minL (n :: ns)) := by
  have e' : (match listInts x with | some (n :: ns) => R.ok (D.int (minL (n :: ns))) | _ => .no) = .ok d := by cases x <;> exact e
  cases h : listInts x with
  | none => rw [h] at e'; cases e'
  | some l =>
    rw [h] at e'
    cases l with
    | nil => cases e'
    | cons n ns => exact ⟨n, ns, rfl, (ok_inj e').symm⟩
theorem gc_max : GC K (rMax K) [false] maxD := gc1 fun v x d H Q hv e => by
  obtain ⟨n, ns, h, rfl⟩ := max_inv e
  obtain ⟨a, rfl, k⟩ := listInts_rd hv h
  refine ⟨_, rfl, fun q => ⟨a, n :: ns, rfl, k, Nat.succ_pos _, fun m h1 h2 => ?_⟩⟩
  obtain ⟨h3, h4⟩ := foldl_max ns n
  have : m = ns.foldl max n := by
    have a1 := h3 m h1
    have a2 := h2 _ h4
    omega
  rw [this]
  exact q
theorem gc_min : GC K (rMin K) [false] minD := gc1 fun v x d H Q hv e => by
  obtain ⟨n, ns, h, rfl⟩ := min_inv e
  obtain ⟨a, rfl, k⟩ := listInts_rd hv h
  refine ⟨_, rfl, fun q => ⟨a, n :: ns, rfl, k, Nat.succ_pos _, fun m h1 h2 => ?_⟩⟩
  obtain ⟨h3, h4⟩ := foldl_min ns n
  have : m = ns.foldl min n := by
    have a1 := h3 m h1
    have a2 := h2 _ h4
    omega
  rw [this]
  exact q
theorem gc_max2 : GC K (fun xs H Q => ∃ i j, xs = [.int i, .int j] ∧ Q (.int (if j > i then j else i)) H) [false, false] maxD := gc2 fun v u x y d H Q hv hu e => by
  cases x <;> try (cases e; done)
  cases y <;> try (cases e; done)
  rw [hv.int_inv, hu.int_inv, ← ok_inj e]
  exact ⟨_, rfl, fun q => ⟨_, _, rfl, q⟩⟩
theorem gc_min2 : GC K (fun xs H Q => ∃ i j, xs = [.int i, .int j] ∧ Q (.int (if j < i then j else i)) H) [false, false] minD := gc2 fun v u x y d H Q hv hu e => by
  cases x <;> try (cases e; done)
  cases y <;> try (cases e; done)
  rw [hv.int_inv, hu.int_inv, ← ok_inj e]
  exact ⟨_, rfl, fun q => ⟨_, _, rfl, q⟩⟩
theorem gc_all : GC K (rAll K) [false] allD := gc1 fun v x d H Q hv e => by
  cases x <;> try (cases e; done)
  rename_i l
  have e' : (match boolsD l with | some bs => R.ok (D.bl (bs.all id)) | none => .no) = .ok d := e
  cases h : boolsD l with
  | none => rw [h] at e'; cases e'
  | some bs =>
    rw [h] at e'
    obtain ⟨a, vs, rfl, h1, h2⟩ := hv.lst_inv
    rw [bools_rd h2 h] at h1
    rw [← ok_inj e']
    exact ⟨_, rfl, fun q => ⟨a, bs, rfl, .inl (.inl h1), q⟩⟩
theorem gc_any : GC K (rAny K) [false] anyD := gc1 fun v x d H Q hv e => by
  cases x <;> try (cases e; done)
  rename_i l
  have e' : (match boolsD l with | some bs => R.ok (D.bl (bs.any id)) | none => .no) = .ok d := e
  cases h : boolsD l with
  | none => rw [h] at e'; cases e'
  | some bs =>
    rw [h] at e'
    obtain ⟨a, vs, rfl, h1, h2⟩ := hv.lst_inv
    rw [bools_rd h2 h] at h1
    rw [← ok_inj e']
    exact ⟨_, rfl, fun q => ⟨a, bs, rfl, .inl (.inl h1), q⟩⟩

/-! ### sorted -/
theorem insI_perm (x : Int) : ∀ l : List Int, (insI x l).Perm (x :: l)
  | [] => List.Perm.refl _
  | y :: r => by
    unfold insI
    split
    · exact List.Perm.refl _
    · exact ((insI_perm x r).cons y).trans (List.Perm.swap x y r)
theorem sortI_perm : ∀ l : List Int, (sortI l).Perm l
  | [] => List.Perm.refl _
  | x :: r => (insI_perm x _).trans ((sortI_perm r).cons x)
theorem insI_sorted (x : Int) : ∀ l : List Int, l.Pairwise (· ≤ ·) → (insI x l).Pairwise (· ≤ ·)
  | [], _ => List.pairwise_singleton _ _
  | y :: r, h => by
    unfold insI
    obtain ⟨h1, h2⟩ := List.pairwise_cons.mp h
    split
    · rename_i c
      refine List.pairwise_cons.mpr ⟨fun z hz => ?_, h⟩
      rcases List.mem_cons.mp hz with rfl | hz
      · exact c
      · exact Int.le_trans c (h1 z hz)
    · rename_i c
      refine List.pairwise_cons.mpr ⟨fun z hz => ?_, insI_sorted x r h2⟩
      rcases List.mem_cons.mp ((insI_perm x r).mem_iff.mp hz) with rfl | hz
      · omega
      · exact h1 z hz
theorem sortI_sorted : ∀ l : List Int, (sortI l).Pairwise (· ≤ ·)
  | [] => List.Pairwise.nil
  | x :: r => insI_sorted x _ (sortI_sorted r)
theorem sorted_one {l m : List Int} (h1 : l.Pairwise (· ≤ ·)) (h2 : m.Pairwise (· ≤ ·)) (p : l.Perm m) : l = m :=
  List.Perm.eq_of_pairwise (fun a b _ _ h k => Int.le_antisymm h k) h1 h2 p
theorem gcf_sorted : GCF K (rSortedI K) [false] sortedD := by
  intro vs ds d I H Q ih ha e
  obtain ⟨x, rfl⟩ := one_of (argsLen ha)
  obtain ⟨v, rfl, hv⟩ := args1 ha
  cases h : listInts x with
  | none =>
    have e' : (match listInts x with | some ns => R.ok (D.lst ((sortI ns).map D.int)) | none => .no) = .ok d := e
    rw [h] at e'
    cases e'
  | some ns =>
    have e' : (match listInts x with | some ns => R.ok (D.lst ((sortI ns).map D.int)) | none => .no) = .ok d := e
    rw [h] at e'
    obtain ⟨a, rfl, k⟩ := listInts_rd hv h
    refine ⟨_, (ok_inj e').symm, fun q => ⟨a, ns, rfl, k, fun ns' p h1 h2 hp => ?_⟩⟩
    have : ns' = sortI ns := sorted_one h2 (sortI_sorted ns) (h1.trans (sortI_perm ns).symm)
    subst this
    exact q p _ I _ (Grow.hid ih (Ex.new hp)) hp (Evl.fresh_back ih hp) upd_same RdA.ints
theorem nea_len : NoErA lenD := fun ds c p => by unfold lenD; repeat' split
                                                 all_goals exact fun z => nomatch z
theorem nea_abs : NoErA absD := fun ds c p => by unfold absD; repeat' split
                                                 all_goals exact fun z => nomatch z
theorem nea_int : NoErA intD := fun ds c p => by unfold intD; repeat' split
                                                 all_goals exact fun z => nomatch z
theorem nea_bool : NoErA boolD := fun ds c p => by unfold boolD; repeat' split
                                                   all_goals exact fun z => nomatch z
theorem nea_str : NoErA strD := fun ds c p => by unfold strD; repeat' split
                                                 all_goals exact fun z => nomatch z
theorem nea_sum : NoErA sumD := fun ds c p => by unfold sumD; repeat' split
                                                 all_goals exact fun z => nomatch z
theorem nea_max : NoErA maxD := fun ds c p => by unfold maxD; repeat' split
                                                 all_goals exact fun z => nomatch z
theorem nea_min : NoErA minD := fun ds c p => by unfold minD; repeat' split
                                                 all_goals exact fun z => nomatch z
theorem nea_sorted : NoErA sortedD := fun ds c p => by unfold sortedD; repeat' split
                                                       all_goals exact fun z => nomatch z
theorem nea_all : NoErA allD := fun ds c p => by unfold allD; repeat' split
                                                 all_goals exact fun z => nomatch z
theorem nea_any : NoErA anyD := fun ds c p => by unfold anyD; repeat' split
                                                 all_goals exact fun z => nomatch z
theorem nea_list : NoErA listD := fun ds c p => by unfold listD; repeat' split
                                                   all_goals exact fun z => nomatch z
theorem nea_tuple : NoErA tupleD := fun ds c p => by unfold tupleD; repeat' split
                                                     all_goals exact fun z => nomatch z
end
end BW
/-! BCore8: what is walked; comprehensions; slices. -/
namespace BW
open PySem PySem.Spec PyProof.Rows L2
open Evl (Ex Ex.refl Ex.trans Ex.new ex_rd ex_l ex_t)

/-- a turn gives the i-th of ds -/
def YD (K : PySem.W.Frag) (ds : List D) (I : Hp) : Nat → Hp → V → Hp → Prop := fun i H x H' => ∃ d, ds[i]? = some d ∧ ((H' = H ∧ Rd K I x d) ∨ ∃ T u, H T = none ∧ H' = upd H T u ∧ Rd K (upd I T u) x d)
def Serves (K : PySem.W.Frag) (J : It) (ds : List D) (I : Hp) : Prop := Walk J ds.length (fun H => Ex I H) (YD K ds I)
def PostI (K : PySem.W.Frag) (W : WX) (σ : L2.St) (I H : Hp) (r : R D) (Q : It → Hp → Prop) : Prop := match r with
  | .ok (.lst ds) => ∀ J I' H', Grow I H I' H' → Serves K J ds I' → Q J H'
  | .er c p => ∀ cls od I' H', Grow I H I' H' → ErrIs K c p cls od I' → W cls od σ H'
  | _ => False
def rdI (K : PySem.W.Frag) (W : WX) (A H0 : Hp) (f : F) : TI := fun σ H R => ∃ env I, Rel K A H0 env σ I H ∧ PostI K W σ I H (f env) R
def VI (X : Cx) (W : WX) (A H0 : Hp) (tg e : Expr) (f : F) : Prop := PI X tg e (rdI X.K W A H0 f)
theorem pi_imp {X : Cx} {tg e : Expr} {t t' : TI} (h : PI X tg e t) (k : ∀ σ H R, t' σ H R → t σ H R) : PI X tg e t' := ⟨fun pins s σ H R I q => h.run pins s σ H R I (k σ H R q)⟩
/-- a list, a tuple, a list's content, the script: what it holds -/
def seqD : D → R D
  | .lst l => .ok (.lst l)
  | .tup l => .ok (.lst l)
  | .scr l => .ok (.lst (l.map D.int))
  | _ => .no
section
variable {K : PySem.W.Frag} {I H : Hp} {a : Addr} {vs : List V} {ds : List D}
theorem serves_list (h1 : SqL K I a vs) (h2 : RdA K I vs ds) : Serves K (Itl K a) ds I := by
  have w := walk_list (K := K) (a := a) (xs := vs)
  rw [h2.length] at w
  exact w.mono (fun H' e => ex_l e h1) fun i H' x H'' hi e y => by
    obtain ⟨d, k1, k2⟩ := h2.getV y.2
    exact ⟨d, k1, .inl ⟨y.1, k2⟩⟩
theorem serves_tup (h1 : SqT K I a vs) (h2 : RdA K I vs ds) : Serves K (Itt K a) ds I := by
  have w := walk_tup (K := K) (a := a) (xs := vs)
  rw [h2.length] at w
  exact w.mono (fun H' e => ex_t e h1) fun i H' x H'' hi e y => by
    obtain ⟨d, k1, k2⟩ := h2.getV y.2
    exact ⟨d, k1, .inl ⟨y.1, k2⟩⟩
def rangeL (lo : Int) (n : Nat) : List D := (List.range n).map fun k => D.int (lo + (k : Nat))
theorem rangeL_len (lo : Int) (n : Nat) : (rangeL lo n).length = n := by unfold rangeL; rw [List.length_map, List.length_range]
theorem rangeL_get {lo : Int} {n i : Nat} (h : i < n) : (rangeL lo n)[i]? = some (.int (lo + (i : Nat))) := by
  unfold rangeL
  rw [List.getElem?_map, List.getElem?_range h]
  rfl
theorem serves_range {lo : Int} {n : Nat} : Serves K (Itr lo n) (rangeL lo n) I := by
  have w := walk_range (lo := lo) (n := n)
  unfold Serves
  rw [rangeL_len]
  exact w.mono (fun _ _ => trivial) fun i H' x H'' hi e y => by
    obtain ⟨e1, e2⟩ := y
    subst e1 e2
    exact ⟨_, rangeL_get hi, .inl ⟨rfl, .int⟩⟩
end
section
variable {X : Cx} {W : WX} {A H0 : Hp} {a b c e tg : Expr} {fa fb fc f : F} {pos : Pos} {tl : TE}
/-- a list or a tuple walked -/
def iSeq (K : PySem.W.Frag) (tl : TE) : TI := fun σ H R => tl σ H fun x H1 => ∃ p, x = .ref p ∧ ((∃ xs, SqL K H1 p xs ∧ R (Itl K p) H1) ∨ ∃ xs, SqT K H1 p xs ∧ R (Itt K p) H1)
theorem pi_seq (hl : PE X e tl) : PI X tg e (iSeq X.K tl) := by
  refine ⟨fun pins s0 σ H R I h => ?_⟩
  refine thn (hl.run pins s0 σ H _ I h) fun v s2 ⟨x, H2, I2, rx, p, ex, q⟩ => ?_
  subst ex
  cases rx
  have fr : ∀ b ∈ [s2.heap.objs.size], FpOk X pins H2 b := fun b hb => by
    rw [List.mem_singleton.mp hb]
    exact I2.fpOk (Nat.le_refl _) (I2.hok.fresh (Nat.le_refl _))
  rcases q with ⟨xs, hq, q⟩ | ⟨xs, hq, q⟩
  · obtain ⟨its, _, pl, _⟩ := I2.list hq
    exact wpAny_pyIter_list pl.isList ⟨_, _, _, _, H2, rfl, I2.kept (t' := s2.toks) fun _ _ w => Heap.get?_push_of_some _ w, turn_list p _, ⟨_, Heap.get?_push_size _ rfl, rfl, rfl⟩, fr, q⟩
  · obtain ⟨its, _, pl, _⟩ := I2.tuple hq
    exact wpAny_pyIter_tuple (show s2.heap.IsTuple p its.toArray from pl) ⟨_, _, _, _, H2, rfl, I2.kept (t' := s2.toks) fun _ _ w => Heap.get?_push_of_some _ w, turn_tuple p _, ⟨_, Heap.get?_push_size _ rfl, rfl, rfl⟩, fr, q⟩
theorem vi_seq (h : VE X W A H0 e f) : VI X W A H0 tg e (f1 seqD f) := pi_imp (pi_seq h) fun σ H R ⟨env, I, rl, q⟩ => ⟨env, I, rl, by
  have q1 : PostI X.K W σ I H ((f env).bind seqD) R := q
  cases hf : f env with
  | ok d =>
    rw [hf] at q1
    intro v I' H' g k
    cases k <;> try (exact q1.elim)
    · rename_i h1 h2
      exact ⟨_, rfl, .inl ⟨_, .inl (.inl (g.ih _ _ h1)), q1 _ I' H' g (serves_list (.inl (.inl h1)) h2)⟩⟩
    · rename_i h1 h2
      exact ⟨_, rfl, .inr ⟨_, (h1.mono g.ih).sq, q1 _ I' H' g (serves_tup h1.sq h2)⟩⟩
    · rename_i h1
      exact ⟨_, rfl, .inl ⟨_, ex_l g.ih h1, q1 _ I' H' g (serves_list h1 RdA.ints)⟩⟩
  | er c p => rw [hf] at q1; exact q1
  | no => rw [hf] at q1; exact q1.elim⟩
def rangeD : List D → R D
  | [.int n] => if -(2 ^ 62) ≤ n ∧ n < 2 ^ 62 then .ok (.lst (rangeL 0 n.toNat)) else .no
  | [.int lo, .int n] => if -(2 ^ 62) ≤ lo ∧ lo < 2 ^ 62 ∧ -(2 ^ 62) ≤ n ∧ n < 2 ^ 62 then .ok (.lst (rangeL lo (n - lo).toNat)) else .no
  | _ => .no
theorem vi_range1 {fs : FA} {p : Pos} (hm : X.mg "range" = none) (ha : VA X W A H0 [a] [false] fs) (hg : Gl X "range" := by rfl) (hs : starEach [a] X.env = [(false, eval a X.env)] := by rfl) : VI X W A H0 tg (.Call (.Name "range" p) [a] [] pos) (fA rangeD fs) :=
  pi_imp (pi_range1 hg hm ha hs) fun σ H Z ⟨env, I, rl, q⟩ => ⟨env, I, rl, by
    have q1 : PostI X.K W σ I H ((fs env).bind rangeD) Z := q
    cases hf : fs env with
    | ok ds =>
      rw [hf] at q1
      intro vs I' H' g k
      obtain ⟨d, rfl⟩ := one_of (argsLen k)
      obtain ⟨v, rfl, hv⟩ := args1 k
      cases d <;> try (exact q1.elim)
      rename_i n
      have q2 : PostI X.K W σ I H (if -(2 ^ 62) ≤ n ∧ n < 2 ^ 62 then R.ok (D.lst (rangeL 0 n.toNat)) else .no) Z := q1
      by_cases hc : -(2 ^ 62) ≤ n ∧ n < 2 ^ 62
      · rw [if_pos hc] at q2
        rw [hv.int_inv]
        exact ⟨n, rfl, hc.1, hc.2, q2 _ I' H' g serves_range⟩
      · rw [if_neg hc] at q2
        exact q2.elim
    | er c p => rw [hf] at q1; exact q1
    | no => rw [hf] at q1; exact q1.elim⟩
theorem vi_range2 {fs : FA} {p : Pos} (hm : X.mg "range" = none) (ha : VA X W A H0 [a, b] [false, false] fs) (hg : Gl X "range" := by rfl) (hs : starEach [a, b] X.env = [(false, eval a X.env), (false, eval b X.env)] := by rfl) (hs2 : starEach [b] X.env = [(false, eval b X.env)] := by rfl) :
    VI X W A H0 tg (.Call (.Name "range" p) [a, b] [] pos) (fA rangeD fs) :=
  pi_imp (pi_range2 hg hm ha hs hs2) fun σ H Z ⟨env, I, rl, q⟩ => ⟨env, I, rl, by
    have q1 : PostI X.K W σ I H ((fs env).bind rangeD) Z := q
    cases hf : fs env with
    | ok ds =>
      rw [hf] at q1
      intro vs I' H' g k
      obtain ⟨d, d2, rfl⟩ := two_of (argsLen k)
      obtain ⟨v, u, rfl, hv, hu⟩ := args2 k
      cases d <;> try (exact q1.elim)
      cases d2 <;> try (exact q1.elim)
      rename_i n m
      have q2 : PostI X.K W σ I H (if -(2 ^ 62) ≤ n ∧ n < 2 ^ 62 ∧ -(2 ^ 62) ≤ m ∧ m < 2 ^ 62 then R.ok (D.lst (rangeL n (m - n).toNat)) else .no) Z := q1
      by_cases hc : -(2 ^ 62) ≤ n ∧ n < 2 ^ 62 ∧ -(2 ^ 62) ≤ m ∧ m < 2 ^ 62
      · rw [if_pos hc] at q2
        rw [hv.int_inv, hu.int_inv]
        exact ⟨n, m, rfl, hc, q2 _ I' H' g serves_range⟩
      · rw [if_neg hc] at q2
        exact q2.elim
    | er c p => rw [hf] at q1; exact q1
    | no => rw [hf] at q1; exact q1.elim⟩

/-! ### targets -/
abbrev FT := D → En → R En
def tN (i : Nat) : FT := fun d env => .ok (env.set i (.im d))
def tsNil : List D → En → R En
  | [], env => .ok env
  | _ :: _, _ => .no
def tsCons (t : FT) (u : List D → En → R En) : List D → En → R En
  | d :: ds, env => (t d env).bind fun e => u ds e
  | [], _ => .no
def tT (n : Nat) (u : List D → En → R En) : FT := fun d env => match d with
  | .tup l => if l.length = n then u l env else .no
  | _ => .no
/-- ts: the slots that the target stores -/
def GPost (K : PySem.W.Frag) (A H0 : Hp) (ts : List Nat) (σ : L2.St) (I H : Hp) (r : R En) (Q : L2.St → Hp → Prop) : Prop := match r with
  | .ok e => ∀ σ' : L2.St, Rel K A H0 e σ' I H → (∀ j, j ∉ ts → σ'[j]? = σ[j]?) → σ'.length = σ.length → Q σ' H
  | _ => False
def rdG (K : PySem.W.Frag) (A H0 : Hp) (ts : List Nat) (t : FT) : TG := fun v σ H Q => ∃ d env I, Rel K A H0 env σ I H ∧ Rd K I v d ∧ GPost K A H0 ts σ I H (t d env) Q
def rdGs (K : PySem.W.Frag) (A H0 : Hp) (ts : List Nat) (t : List D → En → R En) : TGs := fun vs σ H Q => ∃ ds env I, Rel K A H0 env σ I H ∧ RdA K I vs ds ∧ GPost K A H0 ts σ I H (t ds env) Q
def VG (X : Cx) (A H0 : Hp) (tg : Expr) (ts : List Nat) (t : FT) : Prop := PG X tg (rdG X.K A H0 ts t)
def VGs (X : Cx) (A H0 : Hp) (tg : List Expr) (ts : List Nat) (t : List D → En → R En) : Prop := PGs X tg (rdGs X.K A H0 ts t)
theorem pg_imp {t t' : TG} (h : PG X tg t) (k : ∀ v σ H Q, t' v σ H Q → t v σ H Q) : PG X tg t' := ⟨fun pins s σ H v u Q I r q => h.run pins s σ H v u Q I r (k _ _ _ _ q)⟩
theorem pgs_imp {ts : List Expr} {t t' : TGs} (h : PGs X ts t) (k : ∀ v σ H Q, t' v σ H Q → t v σ H Q) : PGs X ts t' := ⟨fun pins s σ H v u Q I r q => h.run pins s σ H v u Q I r (k _ _ _ _ q)⟩
theorem vg_name (i : Nat) {x : Str} (hN : X.N.Nodup) (hi : X.N[i]? = some x := by rfl) (hx : Loc X.env.scope x := by first | exact .inl rfl | exact .inr rfl) (hf : X.fn x = true ∨ X.env.scope.names.lookup x = some .local := by first | exact .inl rfl | exact .inr rfl | assumption) : VG X A H0 (.Name x pos) [i] (tN i) :=
  pg_imp (pg_name hN hi hx hf) fun v σ H Q ⟨d, env, I, rl, k, q⟩ => q _ (rl.set_im k) (fun j hj => List.getElem?_set_ne (by simp at hj; omega)) (List.length_set ..)
theorem vgs_nil : VGs X A H0 [] [] tsNil := pgs_imp pgs_nil fun vs σ H Q ⟨ds, env, I, rl, k, q⟩ => by
  cases k with
  | nil => exact ⟨rfl, q σ rl (fun _ _ => rfl) rfl⟩
  | cons => exact q.elim
theorem vgs_cons {es : List Expr} {t : FT} {u : List D → En → R En} {ts us : List Nat} (h1 : VG X A H0 e ts t) (h2 : VGs X A H0 es us u) (he : (assignEach (e :: es) X.env).map (·.2) = assign e X.env :: (assignEach es X.env).map (·.2) := by rfl) : VGs X A H0 (e :: es) (ts ++ us) (tsCons t u) := by
  refine pgs_imp (pgs_cons h1 h2 he) fun vs σ H Q z => ?_
  obtain ⟨ds, env, I, rl, k, q⟩ := z
  cases k with
  | nil => exact q.elim
  | cons k1 k2 =>
    rename_i v d vs2 ds2
    have q1 : GPost X.K A H0 (ts ++ us) σ I H ((t d env).bind fun e => u ds2 e) Q := q
    refine ⟨v, vs2, rfl, d, env, I, rl, k1, ?_⟩
    cases ht : t d env with
    | ok e1 =>
      rw [ht] at q1
      have q2 : GPost X.K A H0 (ts ++ us) σ I H (u ds2 e1) Q := q1
      refine fun σ' rl' h3 h4 => ⟨ds2, e1, I, rl', k2, ?_⟩
      cases hu : u ds2 e1 with
      | ok e2 =>
        rw [hu] at q2
        exact fun σ2 rl2 h5 h6 => q2 σ2 rl2 (fun j hj => (h5 j fun z => hj (List.mem_append_right _ z)).trans (h3 j fun z => hj (List.mem_append_left _ z))) (h6.trans h4)
      | er c p => rw [hu] at q2; exact q2.elim
      | no => rw [hu] at q2; exact q2.elim
    | er c p => rw [ht] at q1; exact q1.elim
    | no => rw [ht] at q1; exact q1.elim
theorem vg_tup {es : List Expr} {k : Nat} {u : List D → En → R En} {ts : List Nat} (hc : X.calm = true) (h : VGs X A H0 es ts u) (hn : (assignEach es X.env).length = es.length := by rfl) (hst : (assignEach es X.env).findIdx? (·.1) = none := by rfl) : VG X A H0 (.Tuple es k pos) ts (tT es.length u) := by
  refine pg_imp (pg_tup hc h hn hst) fun v σ H Q z => ?_
  obtain ⟨d, env, I, rl, kk, q⟩ := z
  cases d <;> try (exact q.elim)
  rename_i l
  obtain ⟨a, vs, rfl, h1, h2⟩ := kk.tup_inv
  have q1 : GPost X.K A H0 ts σ I H (if l.length = es.length then u l env else .no) Q := q
  by_cases hl : l.length = es.length
  · rw [if_pos hl] at q1
    exact ⟨a, vs, rfl, (h1.mono rl.g.ih).sq, h2.length.trans hl, l, env, I, rl, h2, q1⟩
  · rw [if_neg hl] at q1
    exact q1.elim

/-! ### comprehensions -/
/-- the names of the block forgotten -/
def wipeE (env : En) : List Nat → En
  | [] => env
  | v :: vs => (wipeE env vs).set v .no
theorem wipeE_len (env : En) : ∀ vs, (wipeE env vs).length = env.length
  | [] => rfl
  | v :: vs => by unfold wipeE; rw [List.length_set, wipeE_len env vs]
theorem wipeE_get {env : En} {σ : L2.St} : ∀ {vs : List Nat} {i : Nat} {s : Sl}, (wipeE env vs)[i]? = some s → s = .no ∨ (env[i]? = some s ∧ (wipe σ vs)[i]? = σ[i]?)
  | [], i, s, h => .inr ⟨h, rfl⟩
  | v :: vs, i, s, h => by
    have h' : ((wipeE env vs).set v .no)[i]? = some s := h
    by_cases e : v = i
    · subst e
      have hl : v < (wipeE env vs).length := by
        have := (List.getElem?_eq_some_iff.mp h').1
        rwa [List.length_set] at this
      rw [List.getElem?_set_self hl] at h'
      exact .inl (Option.some.inj h').symm
    · rw [List.getElem?_set_ne e] at h'
      rcases wipeE_get (σ := σ) h' with z | ⟨z, y⟩
      · exact .inl z
      · refine .inr ⟨z, ?_⟩
        show ((wipe σ vs).set v none)[i]? = _
        rw [List.getElem?_set_ne e, y]
theorem Rel.wipe {K : PySem.W.Frag} {A H0 : Hp} {env : En} {σ : L2.St} {I H : Hp} (r : Rel K A H0 env σ I H) (vs : List Nat) : Rel K A H0 (wipeE env vs) (wipe σ vs) I H :=
  r.less (wipeE_len env vs) (wipe_length σ vs) fun _ _ h => wipeE_get h
/-- nothing is let out of a block -/
def R.bindQ {α β : Type} (x : R α) (f : α → R β) : R β := match x with
  | .ok a => f a
  | _ => .no
/-- what the turns make -/
def lcF (tgt : FT) (test elt : F) (env : En) : List D → R (List D)
  | [] => .ok []
  | d :: ds => (tgt d env).bindQ fun e => (test e).bindQ fun
    | .bl c => cond c ((elt e).bindQ fun y => (lcF tgt test elt env ds).bindQ fun r => .ok (y :: r)) (lcF tgt test elt env ds)
    | _ => .no
def fLc (items : F) (tgt : FT) (test elt : F) (own : List Nat) : F := fun env => (items env).bind fun
  | .lst ds => if ds.length ≤ 16777216 then (lcF tgt test elt (wipeE env own) ds).bindQ fun r => .ok (.lst r) else .no
  | _ => .no
def VTs (X : Cx) (W : WX) (A H0 : Hp) (es : List Expr) (f : F) : Prop := PTs X es (rdT X.K W A H0 f)
theorem vts_nil : VTs X W A H0 [] (fC (.bl true)) := ⟨fun pins s σ H Q I ⟨env, I', r, q⟩ => pts_nil.run pins s σ H Q I (q I' H (Grow.refl r.g.ih))⟩
theorem vts_one (h : VT X W A H0 c f) : VTs X W A H0 [c] f := pts_one h
abbrev WF : WX := fun _ _ _ _ => False
theorem wipe_out {σ : L2.St} : ∀ {vs : List Nat} {j : Nat}, j ∉ vs → (wipe σ vs)[j]? = σ[j]?
  | [], _, _ => rfl
  | v :: vs, j, h => by
    show ((wipe σ vs).set v none)[j]? = _
    rw [List.getElem?_set_ne (fun z => h (by rw [z]; exact List.mem_cons_self)), wipe_out fun z => h (List.mem_cons_of_mem _ z)]
theorem wipe_in {σ : L2.St} : ∀ {vs : List Nat} {j : Nat}, j ∈ vs → j < σ.length → (wipe σ vs)[j]? = some none
  | v :: vs, j, h, hl => by
    show ((wipe σ vs).set v none)[j]? = _
    by_cases e : v = j
    · subst e
      exact List.getElem?_set_self (by rw [wipe_length]; exact hl)
    · rw [List.getElem?_set_ne e]
      rcases List.mem_cons.mp h with z | z
      · exact absurd z.symm e
      · exact wipe_in z hl
theorem wipe_same {σ σ' : L2.St} {vs : List Nat} (h : ∀ j, j ∉ vs → σ'[j]? = σ[j]?) (hl : σ'.length = σ.length) : wipe σ' vs = wipe σ vs := by
  refine List.ext_getElem? fun j => ?_
  by_cases hj : j ∈ vs
  · by_cases hb : j < σ.length
    · rw [wipe_in hj hb, wipe_in hj (by rw [hl]; exact hb)]
    · rw [List.getElem?_eq_none (by rw [wipe_length]; omega), List.getElem?_eq_none (by rw [wipe_length]; omega)]
  · rw [wipe_out hj, wipe_out hj, h j hj]
theorem bindQ_ok {α β : Type} {x : R α} {f : α → R β} {y : β} (e : x.bindQ f = .ok y) : ∃ a, x = .ok a ∧ f a = .ok y := by
  cases x with
  | ok a => exact ⟨a, rfl, e⟩
  | er c p => cases e
  | no => cases e
theorem Ex.upd2 {I J : Hp} {T : Addr} {u : HO} (e : Ex I J) : Ex (upd I T u) (upd J T u) := fun b o q => by
  by_cases z : b = T
  · subst z
    rw [upd_same] at q ⊢
    exact q
  · rw [upd_ne z] at q ⊢
    exact e b o q
/-- a turn's item, told in a heap that has grown -/
theorem yd_grow {K : PySem.W.Frag} {ds : List D} {I1 I H H' : Hp} {i : Nat} {x : V} (e1 : Ex I1 I) (ih : Ex I H) (y : YD K ds I1 i H x H') : ∃ d I', ds[i]? = some d ∧ Grow I H I' H' ∧ Rd K I' x d ∧ ∀ b, H b ≠ none → I' b = I b := by
  obtain ⟨d, h1, h2⟩ := y
  rcases h2 with ⟨rfl, h2⟩ | ⟨T, u, h2, rfl, h3⟩
  · exact ⟨d, I, h1, Grow.refl ih, h2.mono e1, fun _ _ => rfl⟩
  · exact ⟨d, upd I T u, h1, Grow.push ih h2, h3.mono (Ex.upd2 e1), fun b hb => upd_ne (fun z => hb (by rw [z]; exact h2))⟩
theorem grow_keep {I H I' H' : Hp} (g : Grow I H I' H') {b : Addr} {o : HO} (hb : H b = some o) (h : I b = none) : I' b = none := by
  cases q : I' b with
  | none => rfl
  | some u =>
    rcases g.new b u q with z | z
    · rw [h] at z; cases z
    · rw [hb] at z; cases z
theorem lc_run {fi ft fe : F} {t : FT} {ts vs : List Nat} (hts : ts.all (fun j => vs.contains j) = true) {σ : L2.St} {H : Hp} {Q : VK} (z : rdF X.K W A H0 (fLc fi t ft fe vs) σ H Q) : tLc (rdI X.K W A H0 fi) (rdG X.K A H0 ts t) (rdT X.K WF A H0 ft) (rdE X.K WF A H0 fe) vs σ H Q := by
  obtain ⟨env, I, rl, q⟩ := z
  refine ⟨env, I, rl, ?_⟩
  unfold fLc at q
  cases hf : fi env with
  | er c p => rw [hf] at q; exact q
  | no => rw [hf] at q; exact q.elim
  | ok d =>
    rw [hf] at q
    cases d with
    | lst ds =>
      have q1 : PostF X.K W σ I H (if ds.length ≤ 16777216 then (lcF t ft fe (wipeE env vs) ds).bindQ fun r => .ok (.lst r) else .no) Q := q
      by_cases hz : ds.length ≤ 16777216
      · rw [if_pos hz] at q1
        cases hl : lcF t ft fe (wipeE env vs) ds with
        | er c p => rw [hl] at q1; exact q1.elim
        | no => rw [hl] at q1; exact q1.elim
        | ok res =>
          rw [hl] at q1
          intro J I1 H1 g1 sv Dl hD
          have i0 : I1 Dl = none := Evl.fresh_back g1.ih hD
          refine lc_it sv (fun i H2 => ∃ I2 acc dn rest, Grow I1 H1 I2 H2 ∧ H2 Dl = some (.lst acc) ∧ I2 Dl = none ∧ RdA X.K I2 acc dn ∧ lcF t ft fe (wipeE env vs) (ds.drop i) = .ok rest ∧ dn ++ rest = res ∧ dn.length ≤ i) ?_ ?_ ?_ ?_
          · exact ⟨I1, [], [], res, Grow.hid g1.ih (Ex.new hD), upd_same, i0, .nil, hl, rfl, Nat.le_refl _⟩
          · exact fun i H2 _ ⟨I2, acc, dn, rest, g2, _⟩ => g2.i.trans g2.ih
          · intro i x H2 H3 hi ⟨I2, acc, dn, rest, g2, a1, a2, a3, a4, a5, a6⟩ y
            obtain ⟨d, I3, e1, g3, k3, k4⟩ := yd_grow g2.i g2.ih y
            have dl3 : H3 Dl = some (.lst acc) := g3.h _ _ a1
            have di3 : I3 Dl = none := grow_keep g3 a1 a2
            have rl3 := ((rl.grow g1).grow (g2.trans g3)).wipe vs
            have hd : ds.drop i = d :: ds.drop (i + 1) := List.drop_eq_getElem?_toList_append .. |>.trans (by rw [e1]; rfl)
            rw [hd] at a4
            obtain ⟨env1, b1, b2⟩ := bindQ_ok (show (t d (wipeE env vs)).bindQ _ = .ok rest from a4)
            obtain ⟨tv, b3, b4⟩ := bindQ_ok b2
            refine ⟨d, wipeE env vs, I3, rl3, k3, ?_⟩
            rw [b1]
            refine fun σ2 rl4 h5 h6 => ⟨?_, env1, I3, rl4, ?_⟩
            · rw [wipe_same (σ := wipe σ vs) (σ' := σ2) (vs := vs) (fun j hj => h5 j fun z => hj (by simpa using (List.all_eq_true.mp hts) j z)) h6]
              refine wipe_same (fun j hj => wipe_out hj) (wipe_length σ vs)
            · rw [b3]
              cases tv with
              | bl b =>
                cases b with
                | true =>
                  obtain ⟨yv, b5, b6⟩ := bindQ_ok b4
                  obtain ⟨rr, b7, b8⟩ := bindQ_ok b6
                  refine fun I4 H4 g4 => iteT ⟨env1, I4, rl4.grow g4, ?_⟩
                  rw [b5]
                  refine fun v I5 H5 g5 k5 => ⟨acc, g5.h _ _ (g4.h _ _ dl3), ?_, I5, acc ++ [v], dn ++ [yv], rr, ?_, upd_same, grow_keep (g4.trans g5) dl3 di3, ?_, b7, ?_, ?_⟩
                  · rw [a3.length]
                    have h9 : sizeLine = 16777216 := by decide
                    rw [h9]
                    omega
                  · have g6 := ((g2.trans g3).trans g4).trans g5
                    exact ⟨g6.i, Evl.Ex.mut g6.h hD, Evl.Ex.mut g6.ih (grow_keep (g4.trans g5) dl3 di3), g6.new⟩
                  · exact (a3.mono ((g3.i.trans g4.i).trans g5.i)).snoc k5
                  · rw [List.append_assoc, ← a5]
                    rw [← ok_inj b8]
                    rfl
                  · rw [List.length_append]
                    show dn.length + 1 ≤ i + 1
                    omega
                | false =>
                  refine fun I4 H4 g4 => iteF ⟨I4, acc, dn, rest, (g2.trans g3).trans g4, g4.h _ _ dl3, grow_keep g4 dl3 di3, a3.mono (g3.i.trans g4.i), b4, a5, by omega⟩
              | _ => cases b4
          · rintro H2 ⟨I2, acc, dn, rest, g2, a1, a2, a3, a4, a5, a6⟩
            rw [List.drop_length] at a4
            cases a4
            rw [List.append_nil] at a5
            subst a5
            exact q1 Dl acc I2 H2 (g1.trans g2) (Evl.fresh_back g1.h hD) a2 a1 a3
      · rw [if_neg hz] at q1
        exact q1.elim
    | _ => exact q.elim
theorem vf_lc {elt iter : Expr} {ifs : List Expr} {scope : Scope} {own : List (Str × Nat)} {fi ft fe : F} {t : FT} {ts : List Nat} (hc : X.calm = true) (hN : X.N.Nodup) (hi : VI X W A H0 tg iter fi) (ok : BlkOk X.N X.env.scope scope own)
    (hg : ∀ (s : Shared) (H : Hp) (C : Addr) (cl : List (Str × Addr)) (fp : List Addr), VG (X.blk s H scope (compEnvC scope cl C X.env) fp) A H0 tg ts t) (ht : ∀ (s : Shared) (H : Hp) (C : Addr) (cl : List (Str × Addr)) (fp : List Addr), VTs (X.blk s H scope (compEnvC scope cl C X.env) fp) WF A H0 ifs ft)
    (he : ∀ (s : Shared) (H : Hp) (C : Addr) (cl : List (Str × Addr)) (fp : List Addr), VE (X.blk s H scope (compEnvC scope cl C X.env) fp) WF A H0 elt fe) (hts : ts.all (fun j => (own.map (·.2)).contains j) = true := by rfl) (hs : ∀ x, foldedSetIterable iter X.env x = pure x := by intro _; rfl) :
    VF X W A H0 (.ListComp elt [⟨tg, iter, ifs, 0⟩] scope pos) (fLc fi t ft fe (own.map (·.2))) :=
  pe_imp (pe_lc (g := rdG X.K A H0 ts t) (tt := rdT X.K WF A H0 ft) (te := rdE X.K WF A H0 fe) hc hN hi ok hg ht he hs) fun σ H Q z => lc_run hts z
end
end BW
/-! BCore9: statements. -/
namespace BW
open PySem PySem.Spec PyProof.Rows L2
open Evl (Ex Ex.refl Ex.trans Ex.new ex_rd ex_l ex_t)
inductive SR where
  | nx (e : En) | bk (e : En) | ct (e : En) | rt (d : D) | er (e : En) (c : Nat) (p : List D) | no
abbrev G := En → SR
def PostR (K : PySem.W.Frag) (A H0 : Hp) (fr : Bool) (d : D) (Q : VK) : Prop := match fr, d with
  | false, d => ∀ v I' H', Grow A H0 I' H' → Rd K I' v d → Q v H'
  | true, .lst ds => ∀ p vs I' H', Grow A H0 I' H' → H0 p = none → I' p = none → H' p = some (.lst vs) → RdA K I' vs ds → Q (.ref p) H'
  | true, .non => ∀ I' H', Grow A H0 I' H' → Q .non H'
  | true, .tup [x, .lst ds] => (match x.sc with
    | some w => ∀ t ob p vs I' H', Grow A H0 I' H' → ob.dict = none → H0 t = none → I' t = none → H' t = some (.frz ob (.tup [w, .ref p])) → H0 p = none → I' p = none → H' p = some (.lst vs) → RdA K I' vs ds → Q (.ref t) H'
    | none => False)
  | true, _ => False
def PostS (K : PySem.W.Frag) (W : WX) (A H0 : Hp) (fr : Bool) (I : Hp) (Z : Ends) (r : SR) : Prop := match r with
  | .nx e => ∀ σ' I' H', Rel K A H0 e σ' I' H' → Ex I I' → Z.nx σ' H'
  | .bk e => ∀ σ' I' H', Rel K A H0 e σ' I' H' → Ex I I' → Z.bk σ' H'
  | .ct e => ∀ σ' I' H', Rel K A H0 e σ' I' H' → Ex I I' → Z.ct σ' H'
  | .rt d => PostR K A H0 fr d Z.rt
  | .er e c p => ∀ σ' I' H' cls od, Rel K A H0 e σ' I' H' → Ex I I' → ErrIs K c p cls od I' → W cls od σ' H'
  | .no => False
def rdS (K : PySem.W.Frag) (W : WX) (A H0 : Hp) (fr : Bool) (g : G) : TS := fun Z σ H => ∃ env I, Rel K A H0 env σ I H ∧ PostS K W A H0 fr I Z (g env)
def VS (X : Cx) (W : WX) (A H0 : Hp) (fr : Bool) (st : Stmt) (g : G) : Prop := PS X st (rdS X.K W A H0 fr g)
def VSs (X : Cx) (W : WX) (A H0 : Hp) (fr : Bool) (st : List Stmt) (g : G) : Prop := PSs X st (rdS X.K W A H0 fr g)
theorem PostS.mono {K : PySem.W.Frag} {W : WX} {A H0 : Hp} {fr : Bool} {I I' : Hp} {Z : Ends} {r : SR} (e : Ex I I') (h : PostS K W A H0 fr I Z r) : PostS K W A H0 fr I' Z r := by
  cases r with
  | nx n => exact fun σ' I2 H' r2 e2 => h σ' I2 H' r2 (e.trans e2)
  | bk n => exact fun σ' I2 H' r2 e2 => h σ' I2 H' r2 (e.trans e2)
  | ct n => exact fun σ' I2 H' r2 e2 => h σ' I2 H' r2 (e.trans e2)
  | rt d => exact h
  | er n c p => exact fun σ' I2 H' cls od r2 e2 k => h σ' I2 H' cls od r2 (e.trans e2) k
  | no => exact h
/-! ### what statements tell -/
def gNext : G := fun env => .nx env
def gBreak : G := fun env => .bk env
def gCont : G := fun env => .ct env
def gSeq (a b : G) : G := fun env => match a env with
  | .nx e => b e
  | r => r
/-- a value's way into a statement -/
def SR.of (env : En) (r : R D) (k : D → SR) : SR := match r with
  | .ok d => k d
  | .er c p => .er env c p
  | .no => .no
def gSet (i : Nat) (f : F) : G := fun env => .of env (f env) fun d => .nx (env.set i (.im d))
def gSetM (i : Nat) (f : F) : G := fun env => .of env (f env) fun
  | .lst l => .nx (env.set i (.mu l))
  | _ => .no
def gDrop (f : F) : G := fun env => .of env (f env) fun _ => .nx env
def gRet (f : F) : G := fun env => .of env (f env) fun d => .rt d
def gRetM (i : Nat) : G := fun env => match env[i]? with
  | some (.mu l) => .rt (.lst l)
  | _ => .no
def gRetN : G := fun _ => .rt .non
def gIf (t : F) (a b : G) : G := fun env => .of env (t env) fun
  | .bl c => cond c (a env) (b env)
  | _ => .no
def gRaise (c : Nat) : G := fun env => .er env c []
def gUnp (t : FT) (f : F) : G := fun env => .of env (f env) fun d => match t d env with
  | .ok e => .nx e
  | _ => .no
def gFrz (i : Nat) : G := fun env => match env[i]? with
  | some (.mu l) => .nx (env.set i (.im (.lst l)))
  | _ => .nx env
/-- a change of one name's own list -/
def gMut (i : Nat) (f : F) (k : List D → D → Option (List D)) : G := fun env => match env[i]? with
  | some (.mu l) => .of env (f env) fun d => (match k l d with
    | some m => .nx (env.set i (.mu m))
    | none => .no)
  | _ => .no
def gMut0 (i : Nat) (k : List D → Option (List D)) : G := fun env => match env[i]? with
  | some (.mu l) => (match k l with
    | some m => .nx (env.set i (.mu m))
    | none => .no)
  | _ => .no
/-- name = list.pop(..) -/
def gPop (j i : Nat) : G := fun env => match env[i]? with
  | some (.mu l) => (match l[l.length - 1]? with
    | some d => .nx ((env.set i (.mu l.dropLast)).set j (.im d))
    | none => .no)
  | _ => .no
def gPopAt (j i : Nat) (f : F) : G := fun env => match env[i]? with
  | some (.mu l) => .of env (f env) fun
    | .int n => if -(2 ^ 63) ≤ n ∧ n < 2 ^ 63 then (match ixN l.length n with
      | some k => (match l[k]? with
        | some d => .nx ((env.set i (.mu (l.eraseIdx k))).set j (.im d))
        | none => .no)
      | none => .no) else .no
    | _ => .no
  | _ => .no
/-- name[index] = value -/
def gSetIx (i : Nat) (fi f : F) : G := fun env => match env[i]? with
  | some (.mu l) => .of env (f env) fun d => .of env (fi env) fun
    | .int n => (match ixN l.length n with
      | some k => .nx (env.set i (.mu (l.set k d)))
      | none => .no)
    | _ => .no
  | _ => .no
/-- name[index] += value -/
def gAugIx (i : Nat) (fi f : F) (op : Int → Int → Int) : G := fun env => match env[i]? with
  | some (.mu l) => .of env (fi env) fun
    | .int n => if 0 ≤ n ∧ n < 2 ^ 63 then (match l[n.toNat]? with
      | some (.int x) => .of env (f env) fun
        | .int y => .nx (env.set i (.mu (l.set n.toNat (.int (op x y)))))
        | _ => .no
      | _ => .no) else .no
    | _ => .no
  | _ => .no
/-- name += value, whole numbers -/
def gAug (i : Nat) (f : F) (op : Int → Int → Int) : G := fun env => match env[i]? with
  | some (.im (.int x)) => .of env (f env) fun
    | .int y => .nx (env.set i (.im (.int (op x y))))
    | _ => .no
  | _ => .no
def kApp (l : List D) (d : D) : Option (List D) := if l.length < sizeLine then some (l ++ [d]) else none
def kExt (l : List D) (d : D) : Option (List D) := match d with
  | .lst m => if l.length + m.length ≤ sizeLine then some (l ++ m) else none
  | _ => none
def kRev (l : List D) : Option (List D) := some l.reverse
def kClear (_ : List D) : Option (List D) := some []
def kPop (l : List D) : Option (List D) := match l with
  | [] => none
  | _ => some l.dropLast
/-- for: turn by turn -/
def forF (t : FT) (body : G) : List D → G
  | [], env => .nx env
  | d :: ds, env => match t d env with
    | .ok e => (match body e with
      | .nx e => forF t body ds e
      | .ct e => forF t body ds e
      | .bk e => .nx e
      | r => r)
    | _ => .no
def gFor (items : F) (t : FT) (body : G) : G := fun env => .of env (items env) fun
  | .lst ds => forF t body ds env
  | _ => .no
/-- while: at most so many turns -/
def whF (c : F) (body : G) : Nat → G
  | 0, _ => .no
  | n + 1, env => .of env (c env) fun
    | .bl t => cond t (match body env with
      | .nx e => whF c body n e
      | .ct e => whF c body n e
      | .bk e => .nx e
      | r => r) (.nx env)
    | _ => .no
def gWhile (n : Nat) (c : F) (body : G) : G := whF c body n
section
variable {X : Cx} {W : WX} {A H0 : Hp} {fr : Bool} {a b c e tg : Expr} {fa fb fc f : F} {pos : Pos} {st : Stmt} {rest : List Stmt} {g g1 g2 : G}
theorem ps_imp {t t' : TS} (h : PS X st t) (k : ∀ Z σ H, t' Z σ H → t Z σ H) : PS X st t' := ⟨fun pins s σ H Z I q => h.run pins s σ H Z I (k Z σ H q)⟩
theorem pss_imp {t t' : TS} (h : PSs X rest t) (k : ∀ Z σ H, t' Z σ H → t Z σ H) : PSs X rest t' := ⟨fun pins s σ H Z I q => h.run pins s σ H Z I (k Z σ H q)⟩
theorem vss_nil : VSs X W A H0 fr [] gNext := pss_imp pss_nil fun Z σ H ⟨env, I, r, q⟩ => q σ I H r (Ex.refl _)
theorem vss_one (h : VS X W A H0 fr st g) : VSs X W A H0 fr [st] g := pss_one h
theorem vss_cons (h : VS X W A H0 fr st g1) (k : VSs X W A H0 fr rest g2) : VSs X W A H0 fr (st :: rest) (gSeq g1 g2) := pss_imp (pss_cons h k) fun Z σ H ⟨env, I, r, q⟩ => ⟨env, I, r, by
  have q1 : PostS X.K W A H0 fr I Z (match g1 env with | .nx e => g2 e | r => r) := q
  cases hg : g1 env with
  | nx e =>
    rw [hg] at q1
    exact fun σ' I' H' r' e' => ⟨e, I', r', q1.mono e'⟩
  | bk n => rw [hg] at q1; exact q1
  | ct n => rw [hg] at q1; exact q1
  | rt d => rw [hg] at q1; exact q1
  | er n c p => rw [hg] at q1; exact q1
  | no => rw [hg] at q1; exact q1⟩
/-- no further change of a name's list -/
theorem vss_frz (i : Nat) (h : VSs X W A H0 fr rest g) : VSs X W A H0 fr rest (gSeq (gFrz i) g) := pss_imp h fun Z σ H ⟨env, I, r, q⟩ => by
  have q1 : PostS X.K W A H0 fr I Z (match (match env[i]? with | some (.mu l) => SR.nx (env.set i (.im (.lst l))) | _ => .nx env) with | .nx e => g e | r => r) := q
  cases he : env[i]? with
  | none => rw [he] at q1; exact ⟨_, I, r, q1⟩
  | some s =>
    rw [he] at q1
    cases s with
    | mu l =>
      obtain ⟨I', e', r'⟩ := r.freeze he
      exact ⟨_, I', r', q1.mono e'⟩
    | _ => exact ⟨_, I, r, q1⟩
/-- a value, then a statement's rest -/
theorem of_run {K : PySem.W.Frag} {env : En} {σ : L2.St} {I H : Hp} {Z : Ends} {r : R D} {k : D → SR} (rl : Rel K A H0 env σ I H) (q : PostS K W A H0 fr I Z (.of env r k)) {Q : VK} (h : ∀ d v I' H', r = .ok d → Rel K A H0 env σ I' H' → Grow I H I' H' → Rd K I' v d → PostS K W A H0 fr I' Z (k d) → Q v H') : PostE K W σ I H r Q := by
  cases r with
  | ok d => exact fun v I' H' g kk => h d v I' H' rfl (rl.grow g) g kk (PostS.mono g.i q)
  | er c p => exact fun cls od I' H' g kk => q σ I' H' cls od (rl.grow g) g.i kk
  | no => exact q.elim
theorem D.lst_or (d : D) : (∃ l, d = .lst l) ∨ ∀ l, d ≠ .lst l := by
  cases d <;> first | exact .inl ⟨_, rfl⟩ | exact .inr (fun l z => by cases z)
theorem of_runF {K : PySem.W.Frag} {env : En} {σ : L2.St} {I H : Hp} {Z : Ends} {r : R D} {k : D → SR} (rl : Rel K A H0 env σ I H) (hk : ∀ d, (∀ l, d ≠ .lst l) → k d = .no) (q : PostS K W A H0 fr I Z (.of env r k)) {Q : VK} (h : ∀ l p vs I' H', r = .ok (.lst l) → Rel K A H0 env σ I' H' → Grow I H I' H' → H p = none → I' p = none → H' p = some (.lst vs) → RdA K I' vs l → PostS K W A H0 fr I' Z (k (.lst l)) → Q (.ref p) H') : PostF K W σ I H r Q := by
  cases r with
  | ok d =>
    rcases D.lst_or d with ⟨l, rfl⟩ | hd
    · exact fun p vs I' H' g h0 hi h1 h2 => h l p vs I' H' rfl (rl.grow g) g h0 hi h1 h2 (PostS.mono g.i q)
    · have q1 : PostS K W A H0 fr I Z (k d) := q
      rw [hk d hd] at q1
      exact q1.elim
  | er c p => exact fun cls od I' H' g kk => q σ I' H' cls od (rl.grow g) g.i kk
  | no => exact q.elim
theorem vs_set (i : Nat) {x : Str} {pos' : Pos} (hN : X.N.Nodup) (he : VE X W A H0 e f) (hi : X.N[i]? = some x := by rfl) (hx : Loc X.env.scope x := by first | exact .inl rfl | exact .inr rfl) (hs : swapsWith e (some (.Name x pos')) pos.line X.env = pure false := by rfl) (hf : X.fn x = true ∨ X.env.scope.names.lookup x = some .local := by first | exact .inl rfl | exact .inr rfl | assumption) :
    VS X W A H0 fr (.Assign [.Name x pos'] e pos) (gSet i f) := ps_imp (ps_set hN hi hx he hs hf) fun Z σ H ⟨env, I, r, q⟩ => ⟨env, I, r, of_run r q fun d v I' H' _ r' g k q' => q' _ I' H' (r'.set_im k) (Ex.refl _)⟩
theorem setM_run {i : Nat} {Z : Ends} {σ : L2.St} {H : Hp} (h : rdS X.K W A H0 fr (gSetM i f) Z σ H) : rdF X.K W A H0 f σ H (fun x H1 => gName i x σ H1 Z.nx) := by
  obtain ⟨env, I, r, q⟩ := h
  refine ⟨env, I, r, of_runF r (fun d hd => ?_) q fun l p vs I' H' _ r' g h0 hi h1 h2 q' => ?_⟩
  · cases d <;> first | rfl | exact absurd rfl (hd _)
  · exact q' _ I' H' (r'.set_mu hi (Evl.fresh_back r.g.h h0) h1 h2 (fun j m hj z => by
      obtain ⟨a, us, k1, k2, _⟩ := r.mu j m hj
      rw [z] at k1
      cases k1
      rw [h0] at k2
      cases k2) (r.owf g h0)) (Ex.refl _)
theorem vs_setM (i : Nat) {x : Str} {pos' : Pos} (hN : X.N.Nodup) (he : VF X W A H0 e f) (hi : X.N[i]? = some x := by rfl) (hx : Loc X.env.scope x := by first | exact .inl rfl | exact .inr rfl) (hs : swapsWith e (some (.Name x pos')) pos.line X.env = pure false := by rfl) (hf : X.fn x = true ∨ X.env.scope.names.lookup x = some .local := by first | exact .inl rfl | exact .inr rfl | assumption) :
    VS X W A H0 fr (.Assign [.Name x pos'] e pos) (gSetM i f) := ps_imp (ps_set hN hi hx he hs hf) fun Z σ H h => setM_run h
theorem vs_drop (he : VE X W A H0 e f) (hs : swapsWith e none pos.line X.env = pure false := by rfl) : VS X W A H0 fr (.Expr e pos) (gDrop f) := ps_imp (ps_expr he hs) fun Z σ H ⟨env, I, r, q⟩ => ⟨env, I, r, of_run r q fun d v I' H' _ r' g k q' => q' σ I' H' r' (Ex.refl _)⟩
theorem vs_ret (he : VE X W A H0 e f) : VS X W A H0 false (.Return (some e) pos) (gRet f) := ps_imp (ps_ret he) fun Z σ H ⟨env, I, r, q⟩ => ⟨env, I, r, of_run r q fun d v I' H' _ r' g k q' => q' v I' H' r'.g k⟩
theorem vs_retF (he : VF X W A H0 e f) : VS X W A H0 true (.Return (some e) pos) (gRet (fLs f)) := ps_imp (ps_ret he) fun Z σ H ⟨env, I, r, q⟩ => ⟨env, I, r, by
  have q0 : PostS X.K W A H0 true I Z (.of env ((f env).bind lsD) fun d => .rt d) := q
  cases hf : f env with
  | ok d =>
    rw [hf] at q0
    cases d with
    | lst l => exact fun p vs I' H' g h0 hi h1 h2 => q0 p vs I' H' (r.g.trans g) (Evl.fresh_back r.g.h h0) hi h1 h2
    | _ => exact q0.elim
  | er c p => rw [hf] at q0; exact fun cls od I' H' g kk => q0 σ I' H' cls od (r.grow g) g.i kk
  | no => rw [hf] at q0; exact q0.elim⟩
theorem vs_retM (i : Nat) {x : Str} {p : Pos} (hN : X.N[i]? = some x := by rfl) (hv : Vis X.env.scope x := by first | exact Or.inl rfl | exact Or.inr (Or.inl rfl) | exact Or.inr (Or.inr rfl)) (hd : (x == ("__debug__" : Str)) = false := by decide) (hcd : (x == ("__classdict__" : Str)) = false := by decide) :
    VS X W A H0 true (.Return (some (.Name x p)) pos) (gRetM i) := ps_imp (ps_ret (pe_var hN hv hd hcd)) fun Z σ H ⟨env, I, r, q⟩ => by
  unfold gRetM at q
  cases he : env[i]? with
  | none => rw [he] at q; exact q.elim
  | some s =>
    rw [he] at q
    cases s with
    | mu l =>
      obtain ⟨a, vs, h1, h2, h3, h4, h5⟩ := r.mu i l he
      exact ⟨.ref a, h1, q a vs I H r.g h4 h3 h2 h5⟩
    | _ => exact q.elim
theorem vs_retN : VS X W A H0 false (.Return none pos) gRetN := ps_imp ps_retN fun Z σ H ⟨env, I, r, q⟩ => q .non I H r.g .non
theorem vs_if {x y : List Stmt} (hc : VT X W A H0 c fc) (ha : VSs X W A H0 fr x g1) (hb : VSs X W A H0 fr y g2) : VS X W A H0 fr (.If c x y pos) (gIf fc g1 g2) := ps_imp (ps_if hc ha hb) fun Z σ H ⟨env, I, r, q⟩ => ⟨env, I, r, by
  unfold gIf at q
  cases hf : fc env with
  | ok d =>
    rw [hf] at q
    cases d with
    | bl t =>
      intro I' H' g
      cases t with
      | true => exact iteT ⟨env, I', r.grow g, PostS.mono g.i q⟩
      | false => exact iteF ⟨env, I', r.grow g, PostS.mono g.i q⟩
    | _ => exact q.elim
  | er c p => rw [hf] at q; exact fun cls od I' H' g kk => q σ I' H' cls od (r.grow g) g.i kk
  | no => rw [hf] at q; exact q.elim⟩
theorem vs_pass : VS X W A H0 fr (.Pass pos) gNext := ps_imp ps_pass fun Z σ H ⟨env, I, r, q⟩ => q σ I H r (Ex.refl _)
theorem vs_break : VS X W A H0 fr (.Break pos) gBreak := ps_imp ps_break fun Z σ H ⟨env, I, r, q⟩ => q σ I H r (Ex.refl _)
theorem vs_cont : VS X W A H0 fr (.Continue pos) gCont := ps_imp ps_continue fun Z σ H ⟨env, I, r, q⟩ => q σ I H r (Ex.refl _)
theorem vs_unp {ts : List Nat} {t : FT} (he : VE X W A H0 e f) (hg : VG X A H0 tg ts t) (hs : swapsWithSole [tg] e pos.line X.env = pure false := by rfl) (hw : swappedStores [tg] e X.env = pure none := by rfl) (h1 : (assignEach [tg] X.env).map (·.2) = [assign tg X.env] := by rfl) :
    VS X W A H0 fr (.Assign [tg] e pos) (gUnp t f) := ps_imp (ps_asg he hg hs hw h1) fun Z σ H ⟨env, I, r, q⟩ => ⟨env, I, r, of_run r q fun d v I' H' _ r' g k q' => ⟨d, env, I', r', k, by
      cases ht : t d env with
      | ok e1 =>
        rw [ht] at q'
        exact fun σ' r2 _ _ => q' σ' I' H' r2 (Ex.refl _)
      | er c p => rw [ht] at q'; exact q'.elim
      | no => rw [ht] at q'; exact q'.elim⟩⟩
theorem vs_raise {cc : Nat} {x m : Str} {j : Nat} {p p2 p3 : Pos} (hc : X.calm = true) (tk : Takes X W) (xC : PySem.W.excIn X.K (CL X.K cc) He.veBase "ValueError.__new__" = true) (gC : X.mg x = some (.ref (CL X.K cc))) (kC : PySem.W.keepIn X.K (.ref (CL X.K cc)) = true)
    (bC : PySem.W.subIn X.K (.ref (CL X.K cc)) (.type "BaseException") = some true) (tC : PySem.W.typeIn X.K (.ref (CL X.K cc)) = some (.type "type")) (hg : Gl X x := by rfl) (hdb : (x == ("__debug__" : Str)) = false := by decide) :
    VS X W A H0 fr (.Raise (some (.Call (.Name x p) [.Constant (.str m) j p2] [] p3)) none pos) (gRaise cc) :=
  ps_imp (ps_raise hc tk (pmk_own PySem.F.excBase_ValueError xC gC kC (raises_own bC tC) hg hdb)) fun Z σ H ⟨env, I, r, q⟩ => q σ I H _ _ r (Ex.refl _) ⟨rfl, rfl⟩
end
end BW
/-! BCore10: loops, changes, defs. -/
namespace BW
open PySem PySem.Spec PyProof.Rows L2
open Evl (Ex Ex.refl Ex.trans Ex.new ex_rd ex_l ex_t)
section
variable {X : Cx} {W : WX} {A H0 : Hp} {fr : Bool} {a b c e tg : Expr} {fa fb fc fi f : F} {pos : Pos} {st : Stmt} {rest : List Stmt} {g g1 g2 : G}
theorem vs_for {ts : List Nat} {t : FT} {body : List Stmt} (hp : PassesOwn (model X.prog X.w) X.A X.env X.xe) (hc : X.calm = true) (hi : VI X W A H0 tg e fi) (hg : VG X A H0 tg ts t) (hb : VSs X W A H0 fr body g) (hs : ∀ x, foldedSetIterable e X.env x = pure x := by intro _; rfl) :
    VS X W A H0 fr (.For tg e body [] pos) (gFor fi t g) := ps_imp (ps_for hp hc hi hg hb hs) fun Z σ H ⟨env, I, r, q⟩ => ⟨env, I, r, by
  unfold gFor at q
  cases hf : fi env with
  | er c p => rw [hf] at q; exact fun cls od I' H' g kk => q σ I' H' cls od (r.grow g) g.i kk
  | no => rw [hf] at q; exact q.elim
  | ok d =>
    rw [hf] at q
    rcases D.lst_or d with ⟨ds, rfl⟩ | hd
    · intro J I1 H1 g1 sv
      have q0 : PostS X.K W A H0 fr I Z (forF t g ds env) := q
      refine for_it sv (fun i σ2 H2 => ∃ env2 I2, Rel X.K A H0 env2 σ2 I2 H2 ∧ Ex I1 I2 ∧ PostS X.K W A H0 fr I2 Z (forF t g (ds.drop i) env2)) ⟨env, I1, r.grow g1, Ex.refl _, PostS.mono g1.i q0⟩ ?_ ?_ ?_
      · exact fun i σ2 H2 _ ⟨env2, I2, r2, e2, _⟩ => e2.trans r2.g.ih
      · intro i x σ2 H2 H3 hi' ⟨env2, I2, r2, e2, q2⟩ y
        obtain ⟨d, I3, e1, g3, k3, _⟩ := yd_grow e2 r2.g.ih y
        have hd : ds.drop i = d :: ds.drop (i + 1) := List.drop_eq_getElem?_toList_append .. |>.trans (by rw [e1]; rfl)
        rw [hd] at q2
        have q3 : PostS X.K W A H0 fr I2 Z (match t d env2 with | .ok e => (match g e with | .nx e => forF t g (ds.drop (i + 1)) e | .ct e => forF t g (ds.drop (i + 1)) e | .bk e => .nx e | r => r) | _ => .no) := q2
        refine ⟨d, env2, I3, r2.grow g3, k3, ?_⟩
        cases ht : t d env2 with
        | er c p => rw [ht] at q3; exact q3.elim
        | no => rw [ht] at q3; exact q3.elim
        | ok env3 =>
          rw [ht] at q3
          refine fun σ3 r3 _ _ => ⟨env3, I3, r3, ?_⟩
          have q4 : PostS X.K W A H0 fr I3 Z (match g env3 with | .nx e => forF t g (ds.drop (i + 1)) e | .ct e => forF t g (ds.drop (i + 1)) e | .bk e => .nx e | r => r) := PostS.mono g3.i q3
          cases hg2 : g env3 with
          | nx n => rw [hg2] at q4; exact fun σ' I' H' r' e' => ⟨n, I', r', (e2.trans g3.i).trans e', q4.mono e'⟩
          | ct n => rw [hg2] at q4; exact fun σ' I' H' r' e' => ⟨n, I', r', (e2.trans g3.i).trans e', q4.mono e'⟩
          | bk n => rw [hg2] at q4; exact q4
          | rt d => rw [hg2] at q4; exact q4
          | er n c p => rw [hg2] at q4; exact q4
          | no => rw [hg2] at q4; exact q4
      · rintro σ2 H2 ⟨env2, I2, r2, e2, q2⟩
        rw [List.drop_length] at q2
        exact q2 σ2 I2 H2 r2 (Ex.refl _)
    · cases d <;> first | exact absurd rfl (hd _) | exact q.elim⟩
theorem vs_while (n : Nat) {body : List Stmt} (hp : PassesOwn (model X.prog X.w) X.A X.env X.xe) (hc : VT X W A H0 c fc) (hb : VSs X W A H0 fr body g) : VS X W A H0 fr (.While c body [] pos) (gWhile n fc g) := ps_imp (ps_while hp hc hb) fun Z σ H ⟨env, I, r, q⟩ => by
  refine ⟨fun m σ2 H2 => ∃ env2 I2, Rel X.K A H0 env2 σ2 I2 H2 ∧ PostS X.K W A H0 fr I2 Z (whF fc g m env2), ⟨n, env, I, r, q⟩, ?_⟩
  rintro m σ2 H2 ⟨env2, I2, r2, q2⟩
  cases m with
  | zero => exact q2.elim
  | succ m =>
    refine ⟨env2, I2, r2, ?_⟩
    unfold whF at q2
    cases hf : fc env2 with
    | er c p => rw [hf] at q2; exact fun cls od I' H' g kk => q2 σ2 I' H' cls od (r2.grow g) g.i kk
    | no => rw [hf] at q2; exact q2.elim
    | ok d =>
      rw [hf] at q2
      cases d with
      | bl b =>
        cases b with
        | true =>
          have q3 : PostS X.K W A H0 fr I2 Z (match g env2 with | .nx e => whF fc g m e | .ct e => whF fc g m e | .bk e => .nx e | r => r) := q2
          refine fun I' H' g' => iteT ⟨fun σ3 H3 => ∃ env3 I3, Rel X.K A H0 env3 σ3 I3 H3 ∧ PostS X.K W A H0 fr I3 Z (whF fc g m env3), fun σ3 H3 w => ⟨m, Nat.lt_succ_self m, w⟩, env2, I', r2.grow g', ?_⟩
          have q4 := PostS.mono g'.i q3
          cases hg2 : g env2 with
          | nx n => rw [hg2] at q4; exact fun σ' I3 H3 r' e' => ⟨n, I3, r', q4.mono e'⟩
          | ct n => rw [hg2] at q4; exact fun σ' I3 H3 r' e' => ⟨n, I3, r', q4.mono e'⟩
          | bk n => rw [hg2] at q4; exact q4
          | rt d => rw [hg2] at q4; exact q4
          | er n c p => rw [hg2] at q4; exact q4
          | no => rw [hg2] at q4; exact q4
        | false => exact fun I' H' g' => iteF (q2 σ2 I' H' (r2.grow g') g'.i)
      | _ => exact q2.elim

/-! ### changes -/
theorem mu_at {K : PySem.W.Frag} {env : En} {i : Nat} {k : List D → SR} {I : Hp} {Z : Ends} (q : PostS K W A H0 fr I Z (match env[i]? with | some (.mu l) => k l | _ => .no)) : ∃ l, env[i]? = some (Sl.mu l) ∧ PostS K W A H0 fr I Z (k l) := by
  cases he : env[i]? with
  | none => rw [he] at q; exact q.elim
  | some s =>
    rw [he] at q
    cases s with
    | mu l => exact ⟨l, rfl, q⟩
    | _ => exact q.elim
/-- a method that changes a list, one argument -/
def MutOp (r : V → List V → Hp → VK → Prop) (K : PySem.W.Frag) (k : List D → D → Option (List D)) : Prop := ∀ (a : Addr) (vs : List V) (v : V) (l m : List D) (d : D) (I H : Hp) (Q : VK), H a = some (.lst vs) → RdA K I vs l → Ex I H → Rd K I v d → k l d = some m → (∀ ws, RdA K I ws m → Q .non (upd H a (.lst ws))) → r (.ref a) [v] H Q
def MutOp0 (r : V → List V → Hp → VK → Prop) (K : PySem.W.Frag) (k : List D → Option (List D)) : Prop := ∀ (a : Addr) (vs : List V) (l m : List D) (I H : Hp) (Q : VK), H a = some (.lst vs) → RdA K I vs l → Ex I H → k l = some m → (∀ v ws, RdA K I ws m → Q v (upd H a (.lst ws))) → r (.ref a) [] H Q
theorem mo_app {K : PySem.W.Frag} : MutOp rAppend K kApp := by
  intro a vs v l m d I H Q h1 h2 ie h3 h4 q
  unfold kApp at h4
  by_cases hz : l.length < sizeLine
  · rw [if_pos hz] at h4
    cases h4
    exact ⟨a, vs, v, rfl, rfl, h1, by rw [h2.length]; exact hz, q _ (h2.snoc h3)⟩
  · rw [if_neg hz] at h4
    cases h4
theorem mo_ext {K : PySem.W.Frag} : MutOp rExtend K kExt := by
  intro a vs v l m d I H Q h1 h2 ie h3 h4 q
  unfold kExt at h4
  cases d <;> try (cases h4; done)
  rename_i ys
  obtain ⟨b, us, rfl, k1, k2⟩ := h3.lst_inv
  have h5 : (if l.length + ys.length ≤ sizeLine then some (l ++ ys) else none) = some m := h4
  by_cases hz : l.length + ys.length ≤ sizeLine
  · rw [if_pos hz] at h5
    cases h5
    exact ⟨a, b, vs, us, rfl, rfl, h1, ie _ _ k1, by rw [h2.length, k2.length]; exact hz, q _ (h2.append k2)⟩
  · rw [if_neg hz] at h5
    cases h5
theorem mo_rev {K : PySem.W.Frag} : MutOp0 rReverse K kRev := by
  intro a vs l m I H Q h1 h2 ie h4 q
  cases h4
  exact ⟨a, vs, rfl, rfl, h1, q _ _ h2.reverse⟩
theorem mo_clear {K : PySem.W.Frag} : MutOp0 rClear K kClear := by
  intro a vs l m I H Q h1 h2 ie h4 q
  cases h4
  exact ⟨a, vs, rfl, rfl, h1, q _ _ .nil⟩
theorem RdA.dropLast {K : PySem.W.Frag} {I : Hp} {vs : List V} {ds : List D} (h : RdA K I vs ds) : RdA K I vs.dropLast ds.dropLast := by
  rw [List.dropLast_eq_take, List.dropLast_eq_take, h.length]
  exact h.take _
theorem mo_pop {K : PySem.W.Frag} : MutOp0 rPop K kPop := by
  intro a vs l m I H Q h1 h2 ie h4 q
  cases l with
  | nil => cases h4
  | cons d l =>
    cases h4
    have hl : l.length < (d :: l).length := Nat.lt_succ_self _
    obtain ⟨v, k1, k2⟩ := h2.get (List.getElem?_eq_getElem hl)
    exact ⟨a, vs, v, rfl, rfl, h1, by rw [h2.length]; exact k1, q _ _ h2.dropLast⟩
theorem ty_lst {K : PySem.W.Frag} {H : Hp} {p : Addr} {xs : List V} (h : H p = some (.lst xs)) : tyV K "list" (.ref p) H := .inl ⟨rfl, _, .inl (.inl h)⟩
theorem vs_mut (i : Nat) {x name : Str} {id : String} {r : V → List V → Hp → VK → Prop} {k : List D → D → Option (List D)} {p apos : Pos} (slot : Slot "list" name id) (hty : typeOf (.builtin id) = pure (.type "method_descriptor")) (hm : MtR X id r) (hk : MutOp r X.K k) (he : VE X W A H0 e f)
    (hN : X.N[i]? = some x := by rfl) (hv : Vis X.env.scope x := by first | exact Or.inl rfl | exact Or.inr (Or.inl rfl) | exact Or.inr (Or.inr rfl)) (hd : (x == ("__debug__" : Str)) = false := by decide) (hcd : (x == ("__classdict__" : Str)) = false := by decide)
    (hs1 : starEach (e :: []) X.env = (false, eval e X.env) :: starEach [] X.env := by rfl)
    (hbase : attributeBase (.Name x p) name X.env (eval (.Name x p) X.env) = eval (.Name x p) X.env := by rfl)
    {cpos : Pos} (hfew : ((backTo cpos (starEach (e :: []) X.env)).all (fun x => !x.1) && (backToKw cpos (keywordEach [] X.env)).all (fun x => x.1.isSome) && decide ((e :: []).length + ([] : List Keyword).length + (if ([] : List Keyword).isEmpty then 0 else 1) < 30)) = true := by rfl)
    (hline : (apos.endLine == cpos.line) = true := by rfl) (hplain : (backTo cpos (starEach [] X.env)).any (·.1) = false := by rfl)
    (hs : swapsWith (.Call (.Attribute (.Name x p) name apos) [e] [] cpos) none pos.line X.env = pure false := by rfl) :
    VS X W A H0 fr (.Expr (.Call (.Attribute (.Name x p) name apos) [e] [] cpos) pos) (gMut i f k) :=
  ps_imp (ps_expr (pe_bm PySem.F.plainAttrs_list slot hty hm (pe_var hN hv hd hcd) (pa_cons he pa_nil hs1) hbase hfew hline hs1 hplain) hs) fun Z σ H ⟨env, I, rl, q⟩ => by
    obtain ⟨l, he, q1⟩ := mu_at q
    obtain ⟨ad, vs, h1, h2, h3, h4, h5⟩ := rl.mu i l he
    refine ⟨.ref ad, h1, ty_lst h2, env, I, rl, of_run rl q1 fun d v I' H' hq r' g' kk q' => ?_⟩
    cases hm2 : k l d with
    | none => rw [hm2] at q'; exact q'.elim
    | some m =>
      rw [hm2] at q'
      exact hk ad vs v l m d I' H' _ (g'.h _ _ h2) (h5.mono g'.i) g'.ih kk hm2 fun ws hw => q' σ I' _ (r'.chg he h1 hw) (Ex.refl _)
theorem vs_mut0 (i : Nat) {x name : Str} {id : String} {r : V → List V → Hp → VK → Prop} {k : List D → Option (List D)} {p apos cpos : Pos} (slot : Slot "list" name id) (hty : typeOf (.builtin id) = pure (.type "method_descriptor")) (hm : MtR X id r) (hk : MutOp0 r X.K k)
    (hN : X.N[i]? = some x := by rfl) (hv : Vis X.env.scope x := by first | exact Or.inl rfl | exact Or.inr (Or.inl rfl) | exact Or.inr (Or.inr rfl)) (hd : (x == ("__debug__" : Str)) = false := by decide) (hcd : (x == ("__classdict__" : Str)) = false := by decide)
    (hbase : attributeBase (.Name x p) name X.env (eval (.Name x p) X.env) = eval (.Name x p) X.env := by rfl) (hline : (apos.endLine == cpos.line) = true := by rfl)
    (hs : swapsWith (.Call (.Attribute (.Name x p) name apos) [] [] cpos) none pos.line X.env = pure false := by rfl) :
    VS X W A H0 fr (.Expr (.Call (.Attribute (.Name x p) name apos) [] [] cpos) pos) (gMut0 i k) :=
  ps_imp (ps_expr (pe_bm0 PySem.F.plainAttrs_list slot hty hm (pe_var hN hv hd hcd) hbase hline) hs) fun Z σ H ⟨env, I, rl, q⟩ => by
    obtain ⟨l, he, q1⟩ := mu_at q
    obtain ⟨ad, vs, h1, h2, h3, h4, h5⟩ := rl.mu i l he
    refine ⟨.ref ad, h1, ty_lst h2, ?_⟩
    cases hm2 : k l with
    | none => rw [hm2] at q1; exact q1.elim
    | some m =>
      rw [hm2] at q1
      exact hk ad vs l m I H _ h2 h5 rl.g.ih hm2 fun v ws hw => q1 σ I _ (rl.chg he h1 hw) (Ex.refl _)
theorem vs_setIx (i : Nat) {x : Str} {p tp : Pos} (he : VE X W A H0 e f) (hi : VE X W A H0 a fi)
    (hN : X.N[i]? = some x := by rfl) (hv : Vis X.env.scope x := by first | exact Or.inl rfl | exact Or.inr (Or.inl rfl) | exact Or.inr (Or.inr rfl)) (hd : (x == ("__debug__" : Str)) = false := by decide) (hcd : (x == ("__classdict__" : Str)) = false := by decide)
    (hpg : ∀ {to ti : TE}, PE X (.Name x p) to → PE X a ti → PG X (.Subscript (.Name x p) a tp) (gSub to ti rSetL) := by intro _ _ h1 h2; exact pg_sub h1 h2 set_list)
    (hs : swapsWithSole [.Subscript (.Name x p) a tp] e pos.line X.env = pure false := by rfl) (hw : swappedStores [.Subscript (.Name x p) a tp] e X.env = pure none := by rfl) (h1 : (assignEach [.Subscript (.Name x p) a tp] X.env).map (·.2) = [assign (.Subscript (.Name x p) a tp) X.env] := by rfl) :
    VS X W A H0 fr (.Assign [.Subscript (.Name x p) a tp] e pos) (gSetIx i fi f) :=
  ps_imp (ps_asg he (hpg (pe_var hN hv hd hcd) hi) hs hw h1) fun Z σ H ⟨env, I, rl, q⟩ => by
    obtain ⟨l, he, q1⟩ := mu_at q
    obtain ⟨ad, vs, h1, h2, h3, h4, h5⟩ := rl.mu i l he
    refine ⟨env, I, rl, of_run rl q1 fun d v I' H' hq r' g' kk q' => ⟨.ref ad, h1, env, I', r', of_run r' q' fun d2 v2 I2 H2 hq2 r2 g2 k2 q2 => ?_⟩⟩
    cases d2 <;> try (exact q2.elim)
    rename_i n
    rw [k2.int_inv]
    have q3 : PostS X.K W A H0 fr I2 Z (match ixN l.length n with | some k => .nx (env.set i (.mu (l.set k d))) | none => .no) := q2
    cases hx : ixN l.length n with
    | none => rw [hx] at q3; exact q3.elim
    | some k =>
      rw [hx] at q3
      refine ⟨ad, vs, n, k, rfl, rfl, g2.h _ _ (g'.h _ _ h2), by rw [h5.length]; exact hx, ?_⟩
      exact q3 σ I2 _ (r2.chg he h1 (((h5.mono g'.i).mono g2.i).set (kk.mono g2.i) k)) (Ex.refl _)
theorem get_list : PGet X (fun o i H Q => ∃ p xs n v, o = .ref p ∧ i = .int n ∧ H p = some (.lst xs) ∧ 0 ≤ n ∧ n < 2 ^ 63 ∧ xs[n.toNat]? = some v ∧ Q v H) := by
  intro pins s σ H o i ov iv Q I ro ri h
  obtain ⟨p, xs, n, v, rfl, rfl, hp, h0, h1, hx, q⟩ := h
  cases ro
  obtain ⟨t, rfl⟩ := ri
  obtain ⟨its, rv, pl, _⟩ := I.list (.inl (.inl hp))
  obtain ⟨u, hu, ru⟩ := rv.get hx
  exact wpAny_getItem_list pl.isList h0 h1 (by simpa using hu) ⟨v, H, I, ru, q⟩
theorem vs_augIx (i : Nat) {x : Str} {p tp : Pos} {op : Operator} {fo : Int → Int → Int} (hp : PIp X op (ipI fo)) (he : VE X W A H0 e f) (hi : VE X W A H0 a fi)
    (hN : X.N[i]? = some x := by rfl) (hv : Vis X.env.scope x := by first | exact Or.inl rfl | exact Or.inr (Or.inl rfl) | exact Or.inr (Or.inr rfl)) (hd : (x == ("__debug__" : Str)) = false := by decide) (hcd : (x == ("__classdict__" : Str)) = false := by decide)
    (ha : ∀ ov iv new, augStore a ov iv new = (do holding [new, ov, iv] (setItem ov iv new); release [new, ov, iv] []; pure .next) := by intros; rfl) :
    VS X W A H0 fr (.AugAssign (.Subscript (.Name x p) a tp) op e pos) (gAugIx i fi f fo) :=
  ps_imp (ps_augS (pe_var hN hv hd hcd) hi get_list he hp set_list ha) fun Z σ H ⟨env, I, rl, q⟩ => by
    obtain ⟨l, he, q1⟩ := mu_at q
    obtain ⟨ad, vs, h1, h2, h3, h4, h5⟩ := rl.mu i l he
    refine ⟨.ref ad, h1, env, I, rl, of_run rl q1 fun d v I' H' hq r' g' kk q' => ?_⟩
    cases d <;> try (exact q'.elim)
    rename_i n
    rw [kk.int_inv]
    have q2 : PostS X.K W A H0 fr I' Z (if 0 ≤ n ∧ n < 2 ^ 63 then (match l[n.toNat]? with | some (.int x) => .of env (f env) (fun | .int y => .nx (env.set i (.mu (l.set n.toNat (.int (fo x y))))) | _ => .no) | _ => .no) else .no) := q'
    by_cases hn : 0 ≤ n ∧ n < 2 ^ 63
    · rw [if_pos hn] at q2
      cases hl : l[n.toNat]? with
      | none => rw [hl] at q2; exact q2.elim
      | some dx =>
        rw [hl] at q2
        cases dx <;> try (exact q2.elim)
        rename_i xi
        obtain ⟨w, k1, k2⟩ := h5.get hl
        refine ⟨ad, vs, n, w, rfl, rfl, g'.h _ _ h2, hn.1, hn.2, k1, env, I', r', of_run r' q2 fun d2 v2 I2 H2 hq2 r2 g2 k3 q3 => ?_⟩
        cases d2 <;> try (exact q3.elim)
        rename_i yi
        rw [k3.int_inv, k2.int_inv]
        have hlt : n < (vs.length : Int) := by
          have := (List.getElem?_eq_some_iff.mp k1).1
          omega
        refine ⟨xi, yi, rfl, rfl, ad, vs, n, n.toNat, rfl, rfl, g2.h _ _ (g'.h _ _ h2), ?_, ?_⟩
        · unfold ixN
          rw [if_pos hn.1, if_pos hlt]
        · exact q3 σ I2 _ (r2.chg he h1 (((h5.mono g'.i).mono g2.i).set .int n.toNat)) (Ex.refl _)
    · rw [if_neg hn] at q2
      exact q2.elim
theorem vs_aug (i : Nat) {x : Str} {p : Pos} {op : Operator} {fo : Int → Int → Int} (hN : X.N.Nodup) (hp : PIp X op (ipI fo)) (he : VE X W A H0 e f) (hi : X.N[i]? = some x := by rfl) (hx : Loc X.env.scope x := by first | exact .inl rfl | exact .inr rfl) (hf : X.fn x = true ∨ X.env.scope.names.lookup x = some .local := by first | exact .inl rfl | exact .inr rfl | assumption) :
    VS X W A H0 fr (.AugAssign (.Name x p) op e pos) (gAug i f fo) :=
  ps_imp (ps_aug hN hi hx he hp hf) fun Z σ H ⟨env, I, rl, q⟩ => by
    have q0 : PostS X.K W A H0 fr I Z (match env[i]? with | some (.im (.int x)) => .of env (f env) (fun | .int y => .nx (env.set i (.im (.int (fo x y)))) | _ => .no) | _ => .no) := q
    cases he : env[i]? with
    | none => rw [he] at q0; exact q0.elim
    | some s =>
      rw [he] at q0
      cases s <;> try (exact q0.elim)
      rename_i d
      cases d <;> try (exact q0.elim)
      rename_i xi
      obtain ⟨v, h1, h2⟩ := rl.im i _ he
      rw [h2.int_inv] at h1
      refine ⟨.int xi, h1, env, I, rl, of_run rl q0 fun d v2 I' H' hq r' g' kk q' => ?_⟩
      cases d <;> try (exact q'.elim)
      rename_i yi
      rw [kk.int_inv]
      exact ⟨xi, yi, rfl, rfl, q' _ I' H' (r'.set_im .int) (Ex.refl _)⟩
theorem vs_pop (j i : Nat) {x y : Str} {p py apos cpos : Pos} (hNd : X.N.Nodup) (hN : X.N[i]? = some x := by rfl) (hv : Vis X.env.scope x := by first | exact Or.inl rfl | exact Or.inr (Or.inl rfl) | exact Or.inr (Or.inr rfl)) (hd : (x == ("__debug__" : Str)) = false := by decide) (hcd : (x == ("__classdict__" : Str)) = false := by decide)
    (hbase : attributeBase (.Name x p) "pop" X.env (eval (.Name x p) X.env) = eval (.Name x p) X.env := by rfl) (hline : (apos.endLine == cpos.line) = true := by rfl)
    (hi : X.N[j]? = some y := by rfl) (hx : Loc X.env.scope y := by first | exact .inl rfl | exact .inr rfl) (hs : swapsWith (.Call (.Attribute (.Name x p) "pop" apos) [] [] cpos) (some (.Name y py)) pos.line X.env = pure false := by rfl) (hf : X.fn y = true ∨ X.env.scope.names.lookup y = some .local := by first | exact .inl rfl | exact .inr rfl | assumption) :
    VS X W A H0 fr (.Assign [.Name y py] (.Call (.Attribute (.Name x p) "pop" apos) [] [] cpos) pos) (gPop j i) :=
  ps_imp (ps_set hNd hi hx (pe_bm0 PySem.F.plainAttrs_list PySem.F.slot_list_pop PySem.F.type_list_pop mt_pop (pe_var hN hv hd hcd) hbase hline) hs hf) fun Z σ H ⟨env, I, rl, q⟩ => by
    obtain ⟨l, he, q1⟩ := mu_at q
    obtain ⟨ad, vs, h1, h2, h3, h4, h5⟩ := rl.mu i l he
    refine ⟨.ref ad, h1, ty_lst h2, ?_⟩
    cases hl : l[l.length - 1]? with
    | none => rw [hl] at q1; exact q1.elim
    | some d =>
      rw [hl] at q1
      obtain ⟨v, k1, k2⟩ := h5.get hl
      exact ⟨ad, vs, v, rfl, rfl, h2, by rw [h5.length]; exact k1, q1 _ I _ ((rl.chg he h1 h5.dropLast).set_im k2) (Ex.refl _)⟩
theorem vs_popAt (j i : Nat) {x y : Str} {p py apos cpos : Pos} (hNd : X.N.Nodup) (hi2 : VE X W A H0 a fi) (hN : X.N[i]? = some x := by rfl) (hv : Vis X.env.scope x := by first | exact Or.inl rfl | exact Or.inr (Or.inl rfl) | exact Or.inr (Or.inr rfl)) (hd : (x == ("__debug__" : Str)) = false := by decide) (hcd : (x == ("__classdict__" : Str)) = false := by decide)
    (hs1 : starEach (a :: []) X.env = (false, eval a X.env) :: starEach [] X.env := by rfl)
    (hbase : attributeBase (.Name x p) "pop" X.env (eval (.Name x p) X.env) = eval (.Name x p) X.env := by rfl)
    (hfew : ((backTo cpos (starEach (a :: []) X.env)).all (fun x => !x.1) && (backToKw cpos (keywordEach [] X.env)).all (fun x => x.1.isSome) && decide ((a :: []).length + ([] : List Keyword).length + (if ([] : List Keyword).isEmpty then 0 else 1) < 30)) = true := by rfl)
    (hline : (apos.endLine == cpos.line) = true := by rfl) (hplain : (backTo cpos (starEach [] X.env)).any (·.1) = false := by rfl)
    (hi : X.N[j]? = some y := by rfl) (hx : Loc X.env.scope y := by first | exact .inl rfl | exact .inr rfl) (hs : swapsWith (.Call (.Attribute (.Name x p) "pop" apos) [a] [] cpos) (some (.Name y py)) pos.line X.env = pure false := by rfl) (hf : X.fn y = true ∨ X.env.scope.names.lookup y = some .local := by first | exact .inl rfl | exact .inr rfl | assumption) :
    VS X W A H0 fr (.Assign [.Name y py] (.Call (.Attribute (.Name x p) "pop" apos) [a] [] cpos) pos) (gPopAt j i fi) :=
  ps_imp (ps_set hNd hi hx (pe_bm PySem.F.plainAttrs_list PySem.F.slot_list_pop PySem.F.type_list_pop mt_popAt (pe_var hN hv hd hcd) (pa_cons hi2 pa_nil hs1) hbase hfew hline hs1 hplain) hs hf) fun Z σ H ⟨env, I, rl, q⟩ => by
    obtain ⟨l, he, q1⟩ := mu_at q
    obtain ⟨ad, vs, h1, h2, h3, h4, h5⟩ := rl.mu i l he
    refine ⟨.ref ad, h1, ty_lst h2, env, I, rl, of_run rl q1 fun d v I' H' hq r' g' kk q' => ?_⟩
    cases d <;> try (exact q'.elim)
    rename_i n
    rw [kk.int_inv]
    have q2 : PostS X.K W A H0 fr I' Z (if -(2 ^ 63) ≤ n ∧ n < 2 ^ 63 then (match ixN l.length n with | some k => (match l[k]? with | some d => .nx ((env.set i (.mu (l.eraseIdx k))).set j (.im d)) | none => .no) | none => .no) else .no) := q'
    by_cases hn : -(2 ^ 63) ≤ n ∧ n < 2 ^ 63
    · rw [if_pos hn] at q2
      cases hx : ixN l.length n with
      | none => rw [hx] at q2; exact q2.elim
      | some k =>
        rw [hx] at q2
        have q3 : PostS X.K W A H0 fr I' Z (match l[k]? with | some d => .nx ((env.set i (.mu (l.eraseIdx k))).set j (.im d)) | none => .no) := q2
        cases hl : l[k]? with
        | none => rw [hl] at q3; exact q3.elim
        | some d =>
          rw [hl] at q3
          obtain ⟨w, k1, k2⟩ := h5.get hl
          exact ⟨ad, vs, n, k, w, rfl, rfl, g'.h _ _ h2, hn.1, hn.2, by rw [h5.length]; exact (ixN_seq hx).1, k1, q3 _ I' _ ((r'.chg he h1 ((h5.mono g'.i).eraseIdx k)).set_im (k2.mono g'.i)) (Ex.refl _)⟩
    · rw [if_neg hn] at q2
      exact q2.elim

/-! ### name = [.. for ..] -/
theorem vs_setLc (i : Nat) {y : Str} {py : Pos} {elt iter : Expr} {ifs : List Expr} {scope : Scope} {own : List (Str × Nat)} {lpos : Pos} {ft fe : F} {t : FT} {ts : List Nat} (hc : X.calm = true) (hN : X.N.Nodup) (hi : VI X W A H0 tg iter fi) (ok : BlkOk X.N X.env.scope scope own)
    (hg : ∀ (s : Shared) (H : Hp) (C : Addr) (cl : List (Str × Addr)) (fp : List Addr), VG (X.blk s H scope (compEnvC scope cl C X.env) fp) A H0 tg ts t) (ht : ∀ (s : Shared) (H : Hp) (C : Addr) (cl : List (Str × Addr)) (fp : List Addr), VTs (X.blk s H scope (compEnvC scope cl C X.env) fp) WF A H0 ifs ft)
    (he : ∀ (s : Shared) (H : Hp) (C : Addr) (cl : List (Str × Addr)) (fp : List Addr), VE (X.blk s H scope (compEnvC scope cl C X.env) fp) WF A H0 elt fe) (hts : ts.all (fun j => (own.map (·.2)).contains j) = true := by rfl)
    (hsw : swapsWith (.ListComp elt [⟨tg, iter, ifs, 0⟩] scope lpos) (some (.Name y py)) pos.line X.env = pure true := by exact sw_true rfl rfl rfl (by decide +kernel)) (hy : X.N[i]? = some y := by rfl) (hyl : X.env.scope.names.lookup y = some .local := by rfl) (hs : ∀ x, foldedSetIterable iter X.env x = pure x := by intro _; rfl) :
    VS X W A H0 fr (.Assign [.Name y py] (.ListComp elt [⟨tg, iter, ifs, 0⟩] scope lpos) pos) (gSetM i (fLc fi t ft fe (own.map (·.2)))) :=
  ps_imp (ps_setLc (g := rdG X.K A H0 ts t) (tt := rdT X.K WF A H0 ft) (te := rdE X.K WF A H0 fe) hc hN hy hyl hsw hi ok hg ht he hs) fun Z σ H h => lc_run hts (setM_run h)
theorem vs_setLcI (i : Nat) {y : Str} {py : Pos} {elt iter : Expr} {ifs : List Expr} {scope : Scope} {own : List (Str × Nat)} {lpos : Pos} {ft fe : F} {t : FT} {ts : List Nat} (hc : X.calm = true) (hN : X.N.Nodup) (hi : VI X W A H0 tg iter fi) (ok : BlkOk X.N X.env.scope scope own)
    (hg : ∀ (s : Shared) (H : Hp) (C : Addr) (cl : List (Str × Addr)) (fp : List Addr), VG (X.blk s H scope (compEnvC scope cl C X.env) fp) A H0 tg ts t) (ht : ∀ (s : Shared) (H : Hp) (C : Addr) (cl : List (Str × Addr)) (fp : List Addr), VTs (X.blk s H scope (compEnvC scope cl C X.env) fp) WF A H0 ifs ft)
    (he : ∀ (s : Shared) (H : Hp) (C : Addr) (cl : List (Str × Addr)) (fp : List Addr), VE (X.blk s H scope (compEnvC scope cl C X.env) fp) WF A H0 elt fe) (hts : ts.all (fun j => (own.map (·.2)).contains j) = true := by rfl)
    (hsw : swapsWith (.ListComp elt [⟨tg, iter, ifs, 0⟩] scope lpos) (some (.Name y py)) pos.line X.env = pure true := by exact sw_true rfl rfl rfl (by decide +kernel)) (hy : X.N[i]? = some y := by rfl) (hyl : X.env.scope.names.lookup y = some .local := by rfl) (hs : ∀ x, foldedSetIterable iter X.env x = pure x := by intro _; rfl) :
    VS X W A H0 fr (.Assign [.Name y py] (.ListComp elt [⟨tg, iter, ifs, 0⟩] scope lpos) pos) (gSet i (fLs (fLc fi t ft fe (own.map (·.2))))) :=
  ps_imp (ps_setLc (g := rdG X.K A H0 ts t) (tt := rdT X.K WF A H0 ft) (te := rdE X.K WF A H0 fe) hc hN hy hyl hsw hi ok hg ht he hs) fun Z σ H ⟨env, I, r, q⟩ => lc_run hts ⟨env, I, r, by
    have q0 : PostS X.K W A H0 fr I Z (.of env ((fLc fi t ft fe (own.map (·.2)) env).bind lsD) fun d => .nx (env.set i (.im d))) := q
    cases hf : fLc fi t ft fe (own.map (·.2)) env with
    | ok d =>
      rw [hf] at q0
      rcases D.lst_or d with ⟨l, rfl⟩ | hd
      · exact fun p vs I' H' g h0 hi' h1 h2 => q0 _ (upd I' p (.lst vs)) H' ((r.grow (g.add h0 hi' h1)).set_im (.lst upd_same (h2.mono (Ex.new hi')))) (g.add h0 hi' h1).i
      · cases d <;> first | exact absurd rfl (hd _) | exact q0.elim
    | er c p => rw [hf] at q0; exact fun cls od I' H' g kk => q0 σ I' H' cls od (r.grow g) g.i kk
    | no => rw [hf] at q0; exact q0.elim⟩
end

/-! ### defs -/
/-- the environment at a def's start: strict and loose arguments, the other names unknown -/
def args0 : List Bool → List D → En
  | true :: fl, d :: ds => .im d :: args0 fl ds
  | false :: fl, d :: ds => .bo d :: args0 fl ds
  | _, _ => []
def env0 (n : Nat) (fl : List Bool) (ds : List D) : En := args0 fl ds ++ List.replicate (n - fl.length) .no
/-- what a def hands back -/
def outD (r : SR) : R D := match r with
  | .rt d => .ok d
  | .nx _ => .ok .non
  | .er _ c p => .er c p
  | _ => .no
/-- .. that hands back a new list -/
def outN (r : SR) : R D := match r with
  | .rt d => .ok d
  | .er _ c p => .er c p
  | _ => .no
def defD (n : Nat) (fl : List Bool) (g : G) : List D → R D := fun ds => if ds.length = fl.length then outD (g (env0 n fl ds)) else .no
def defN (n : Nat) (fl : List Bool) (g : G) : List D → R D := fun ds => if ds.length = fl.length then outN (g (env0 n fl ds)) else .no
section
variable {K : PySem.W.Frag} {I H : Hp}
theorem args0_len : ∀ {fl : List Bool} {vs : List V} {ds : List D}, ArgsOk K I H fl vs ds → (args0 fl ds).length = fl.length
  | _, _, _, .nil => rfl
  | _, _, _, .st h q => congrArg (· + 1) (args0_len q)
  | _, _, _, .lo h q => congrArg (· + 1) (args0_len q)
theorem args0_get : ∀ {fl : List Bool} {vs : List V} {ds : List D}, ArgsOk K I H fl vs ds → ∀ {i : Nat} {s : Sl}, (args0 fl ds)[i]? = some s → ∃ v, vs[i]? = some v ∧ ((∃ d, s = .im d ∧ Rd K I v d) ∨ ∃ d, s = .bo d ∧ Rd K H v d)
  | _, _, _, .nil, i, s, e => by simp [args0] at e
  | _, _, _, .st h q, 0, s, e => by
    have e' := Option.some.inj e
    exact ⟨_, rfl, .inl ⟨_, e'.symm, h⟩⟩
  | _, _, _, .lo h q, 0, s, e => by
    have e' := Option.some.inj e
    exact ⟨_, rfl, .inr ⟨_, e'.symm, h⟩⟩
  | _, _, _, .st h q, i + 1, s, e => args0_get q (i := i) e
  | _, _, _, .lo h q, i + 1, s, e => args0_get q (i := i) e
theorem rel0 {N : List Str} {fl : List Bool} {vs : List V} {ds : List D} (ie : Ex I H) (h : ArgsOk K I H fl vs ds) (hn : fl.length ≤ N.length) : Rel K I H (env0 N.length fl ds) (L2.start N vs) I H := by
  have hl := args0_len h
  have hv := h.length
  have get : ∀ (i : Nat) (s : Sl), (env0 N.length fl ds)[i]? = some s → s = .no ∨ ∃ v, (L2.start N vs)[i]? = some (some v) ∧ ((∃ d, s = .im d ∧ Rd K I v d) ∨ ∃ d, s = .bo d ∧ Rd K H v d) := fun i s e => by
    unfold env0 at e
    by_cases hi : i < fl.length
    · rw [List.getElem?_append_left (by rw [hl]; exact hi)] at e
      obtain ⟨v, h1, h2⟩ := args0_get h e
      refine .inr ⟨v, ?_, h2⟩
      unfold L2.start
      rw [List.getElem?_append_left (by rw [List.length_map, hv]; exact hi), List.getElem?_map, h1]
      rfl
    · rw [List.getElem?_append_right (by rw [hl]; omega), List.getElem?_replicate] at e
      split at e
      · exact .inl (Option.some.inj e).symm
      · cases e
  refine ⟨Grow.refl ie, ?_, fun i d e => ?_, fun i l e => ?_, fun i d e => ?_, fun i j l m a e1 e2 _ _ => ?_, fun i ks l e => ?_, fun i j ks ls l m a e1 e2 _ _ => ?_, fun i d e => ?_⟩
  · unfold L2.start env0
    rw [List.length_append, List.length_append, List.length_map, List.length_replicate, List.length_replicate, hl, hv]
  · rcases get i _ e with z | ⟨v, h1, ⟨d', z, h2⟩ | ⟨d', z, h2⟩⟩
    · cases z
    · cases z; exact ⟨v, h1, h2⟩
    · cases z
  · rcases get i _ e with z | ⟨v, h1, ⟨d', z, h2⟩ | ⟨d', z, h2⟩⟩ <;> cases z
  · rcases get i _ e with z | ⟨v, h1, ⟨d', z, h2⟩ | ⟨d', z, h2⟩⟩
    · cases z
    · cases z
    · cases z; exact ⟨v, h1, h2⟩
  · rcases get i _ e1 with z | ⟨v, h1, ⟨d', z, h2⟩ | ⟨d', z, h2⟩⟩ <;> cases z
  · rcases get i _ e with z | ⟨v, h1, ⟨d', z, h2⟩ | ⟨d', z, h2⟩⟩ <;> cases z
  · rcases get i _ e1 with z | ⟨v, h1, ⟨d', z, h2⟩ | ⟨d', z, h2⟩⟩ <;> cases z
  · rcases get i _ e with z | ⟨v, h1, ⟨d', z, h2⟩ | ⟨d', z, h2⟩⟩ <;> cases z
end
section
variable {P : Program} {w : World} {K : PySem.W.Frag} {mg : Str → Option Value} {base : Heap}
/-- a def as the head tells it, no defaults -/
abbrev Fn (K : PySem.W.Frag) (x qual : Str) (st : Stmt) (f : Addr) (fd : FuncData) : Prop := FunD K x qual (defArgs st) (defBody st) (defScope st) [] [] f fd
/-- where a def's body stands -/
abbrev Cb (P : Program) (w : World) (K : PySem.W.Frag) (mg : Str → Option Value) (base : Heap) (N : List Str) (qual : Str) (st : Stmt) (f : Addr) (cdv : Value) (A : Around) (outer : List PySem.Env) (s : Shared) (H : Hp) (E : XK) : Cx := cxOf (L2.CX P w) P w K mg base N qual (defScope st) f cdv A outer s H E
abbrev WB (E : XK) : WX := fun cls d _ H' => E cls d H'
theorem spF_len {fl : List Bool} {m : List D → R D} {ps : List Str} (h : fl.length = ps.length) : ∀ vs H Q E, spF K fl m vs H Q E → vs.length = ps.length := fun vs H Q E ⟨_, _, _, a, _⟩ => a.length.trans h
theorem spN_len {fl : List Bool} {m : List D → R D} {ps : List Str} (h : fl.length = ps.length) : ∀ vs H Q E, spN K fl m vs H Q E → vs.length = ps.length := fun vs H Q E ⟨_, _, _, a, _⟩ => a.length.trans h
/-- a def keeps the promise that its body tells -/
theorem fn_ok {x qual : Str} {st : Stmt} {f : Addr} {fd : FuncData} {N ps : List Str} {k : Nat} {fl : List Bool} {g : G} (F0 : Fn K x qual st f fd) (S : FnScope N ps (defScope st)) (hfl : fl.length = ps.length := by rfl) (hn : fl.length ≤ N.length := by decide)
    (body : ∀ (cdv : Value) (A : Around) (outer : List PySem.Env) (s : Shared) (H I : Hp) (E : XK), Room k (A.deeper (envOfC qual (defScope st) s.heap.objs.size f cdv)) → Takes (Cb P w K mg base N qual st f cdv A outer s H E) (WB E) →
      PassesOwn (model P w) (A.deeper (envOfC qual (defScope st) s.heap.objs.size f cdv)) (envOfC qual (defScope st) s.heap.objs.size f cdv) (Cb P w K mg base N qual st f cdv A outer s H E).xe → VSs (Cb P w K mg base N qual st f cdv A outer s H E) (WB E) I H false (defBody st) g) :
    FnOk P w K mg base (L2.CX P w) (k + 1) f fd ps (spF K fl (defD N.length fl g)) := by
  refine F0.ok S (spF_len hfl) fun cdv A outer s H vs Q E hr h => ?_
  obtain ⟨ds, I, ie, ha, q⟩ := h
  refine ⟨_, body cdv A outer s H I E hr (takes_of rfl rfl rfl rfl) (passes_of rfl), env0 N.length fl ds, I, rel0 ie ha hn, ?_⟩
  have hl : ds.length = fl.length := argsLen ha
  have q1 : PostE K (WB E) [] I H (if ds.length = fl.length then outD (g (env0 N.length fl ds)) else .no) Q := q
  rw [if_pos hl] at q1
  cases hg : g (env0 N.length fl ds) with
  | nx e => rw [hg] at q1; exact fun σ' I' H' r _ => q1 .non I' H' r.g .non
  | rt d => rw [hg] at q1; exact q1
  | er e c p => rw [hg] at q1; exact fun σ' I' H' cls od r _ kk => q1 cls od I' H' r.g kk
  | bk e => rw [hg] at q1; exact q1.elim
  | ct e => rw [hg] at q1; exact q1.elim
  | no => rw [hg] at q1; exact q1.elim
theorem fn_new {x qual : Str} {st : Stmt} {f : Addr} {fd : FuncData} {N ps : List Str} {k : Nat} {fl : List Bool} {g : G} (F0 : Fn K x qual st f fd) (S : FnScope N ps (defScope st)) (hfl : fl.length = ps.length := by rfl) (hn : fl.length ≤ N.length := by decide)
    (body : ∀ (cdv : Value) (A : Around) (outer : List PySem.Env) (s : Shared) (H I : Hp) (E : XK), Room k (A.deeper (envOfC qual (defScope st) s.heap.objs.size f cdv)) → Takes (Cb P w K mg base N qual st f cdv A outer s H E) (WB E) →
      PassesOwn (model P w) (A.deeper (envOfC qual (defScope st) s.heap.objs.size f cdv)) (envOfC qual (defScope st) s.heap.objs.size f cdv) (Cb P w K mg base N qual st f cdv A outer s H E).xe → VSs (Cb P w K mg base N qual st f cdv A outer s H E) (WB E) I H true (defBody st) g) :
    FnOk P w K mg base (L2.CX P w) (k + 1) f fd ps (spN K fl (defN N.length fl g)) := by
  refine F0.ok S (spN_len hfl) fun cdv A outer s H vs Q E hr h => ?_
  obtain ⟨ds, I, ie, ha, q⟩ := h
  refine ⟨_, body cdv A outer s H I E hr (takes_of rfl rfl rfl rfl) (passes_of rfl), env0 N.length fl ds, I, rel0 ie ha hn, ?_⟩
  have hl : ds.length = fl.length := argsLen ha
  have q1 : PostF K (WB E) [] I H (if ds.length = fl.length then outN (g (env0 N.length fl ds)) else .no) Q := q
  rw [if_pos hl] at q1
  cases hg : g (env0 N.length fl ds) with
  | nx e => rw [hg] at q1; exact q1.elim
  | rt d =>
    rw [hg] at q1
    rcases D.lst_or d with ⟨l, rfl⟩ | hd
    · exact fun p vs I' H' gg h0 h1 h2 h3 => q1 p vs I' H' gg h0 h1 h2 h3
    · cases d <;> first | exact absurd rfl (hd _) | exact q1.elim
  | er e c p => rw [hg] at q1; exact fun σ' I' H' cls od r _ kk => q1 cls od I' H' r.g kk
  | bk e => rw [hg] at q1; exact q1.elim
  | ct e => rw [hg] at q1; exact q1.elim
  | no => rw [hg] at q1; exact q1.elim
/-- the same, its function said otherwise -/
theorem _root_.L2.FnOk.eqF {k : Nat} {f : Addr} {fd : FuncData} {ps : List Str} {fl : List Bool} {m m' : List D → R D} (h : FnOk P w K mg base (L2.CX P w) k f fd ps (spF K fl m)) (e : m = m') : FnOk P w K mg base (L2.CX P w) k f fd ps (spF K fl m') := e ▸ h
end
end BW
/-! BCore11: more of lists; calls by name. -/
namespace BW
open PySem PySem.Spec PyProof.Rows L2
open Evl (Ex Ex.refl Ex.trans Ex.new ex_rd ex_l ex_t)
/-- a name's list, changing or not -/
def fV (i : Nat) : F := fun env => match env[i]? with
  | some (.mu l) => .ok (.lst l)
  | some (.im (.lst l)) => .ok (.lst l)
  | _ => .no
def cutL {α : Type} (xs : List α) (lo hi : Option Int) : List α := (xs.drop (HT.sIx xs.length 0 lo)).take (HT.sIx xs.length xs.length hi - HT.sIx xs.length 0 lo)
def sliceD : D → Option Int → Option Int → R D
  | .lst l, lo, hi => .ok (.lst (cutL l lo hi))
  | .scr l, lo, hi => .ok (.lst ((cutL l lo hi).map D.int))
  | .tup l, lo, hi => .ok (.tup (cutL l lo hi))
  | .str z, lo, hi => if z.length ≤ sizeLine then .ok (.str (cutS z lo hi)) else .no
  | _, _, _ => .no
abbrev FO := En → R (Option Int)
def oN : FO := fun _ => .ok none
def oS (f : F) : FO := fun env => (f env).bind fun
  | .int i => .ok (some i)
  | _ => .no
def fSl (f : F) (lo hi : FO) : F := fun env => (f env).bind fun d => (lo env).bind fun l => (hi env).bind fun h => sliceD d l h
def catD : D → D → R D
  | .lst x, .lst y => if x.length + y.length ≤ sizeLine then .ok (.lst (x ++ y)) else .no
  | _, _ => .no
def repD : D → D → R D
  | .lst x, .int k => if -(2 ^ 63) ≤ k ∧ k < 2 ^ 63 ∧ x.length * k.toNat ≤ sizeLine then .ok (.lst (List.replicate k.toNat x).flatten) else .no
  | _, _ => .no
/-- what a builtin type a value is of -/
def tyn : D → Option String
  | .non => some "NoneType"
  | .bl _ => some "bool"
  | .int _ => some "int"
  | .str _ => some "str"
  | .lst _ => some "list"
  | .scr _ => some "list"
  | .tup _ => some "tuple"
  | _ => none
def isiD (T : String) (d : D) : R D := match tyn d with
  | some t => (match kitB t T with
    | some b => .ok (.bl b)
    | none => .no)
  | none => .no
def truD : D → R D
  | .non => .ok (.bl false)
  | .bl b => .ok (.bl b)
  | .int i => .ok (.bl (i != 0))
  | .lst l => .ok (.bl (!l.isEmpty))
  | .tup l => .ok (.bl (!l.isEmpty))
  | .scr l => .ok (.bl (!l.isEmpty))
  | _ => .no
section
variable {X : Cx} {W : WX} {A H0 : Hp} {fr : Bool} {a b c e tg : Expr} {fa fb fc fi f : F} {pos : Pos}
theorem vl_var (i : Nat) {x : Str} (hN : X.N[i]? = some x := by rfl) (hv : Vis X.env.scope x := by first | exact Or.inl rfl | exact Or.inr (Or.inl rfl) | exact Or.inr (Or.inr rfl)) (hd : (x == ("__debug__" : Str)) = false := by decide)
    (hcd : (x == ("__classdict__" : Str)) = false := by decide) : VL X W A H0 (.Name x pos) (fV i) := pe_imp (pe_var hN hv hd hcd) fun σ H Q ⟨env, I, r, q⟩ => by
  have q1 : PostC X.K W σ I H (match env[i]? with | some (.mu l) => .ok (.lst l) | some (.im (.lst l)) => .ok (.lst l) | _ => .no) Q := q
  cases he : env[i]? with
  | none => rw [he] at q1; exact q1.elim
  | some s =>
    rw [he] at q1
    cases s with
    | mu l =>
      obtain ⟨a, vs, h1, h2, h3, h4, h5⟩ := r.mu i l he
      exact ⟨.ref a, h1, q1 a vs I H (Grow.refl r.g.ih) h2 h5⟩
    | im d =>
      cases d <;> try (exact q1.elim)
      obtain ⟨v, h1, h2⟩ := r.im i _ he
      obtain ⟨a, vs, rfl, k1, k2⟩ := h2.lst_inv
      exact ⟨.ref a, h1, q1 a vs I H (Grow.refl r.g.ih) (r.g.ih _ _ k1) k2⟩
    | _ => exact q1.elim
/-- a list's content first, then a value: what follows -/
theorem con_run {K : PySem.W.Frag} {σ : L2.St} {I H : Hp} {k : D → R D} {Q Q' : VK} {r : R D} (q : PostF K W σ I H ((r.bind lsD).bind k) Q) (h : ∀ l p vs I' H', Grow I H I' H' → H' p = some (.lst vs) → RdA K I' vs l → PostF K W σ I H (k (.lst l)) Q → Q' (.ref p) H') : PostC K W σ I H r Q' := by
  cases r with
  | er c p => exact q
  | no => exact q.elim
  | ok d =>
    rcases D.lst_or d with ⟨l, rfl⟩ | hd
    · exact fun p vs I' H' g h1 h2 => h l p vs I' H' g h1 h2 q
    · cases d <;> first | exact absurd rfl (hd _) | exact q.elim
/-- two contents, a new list -/
theorem vf_cat (ha : VL X W A H0 a fa) (hb : VL X W A H0 b fb) : VF X W A H0 (.BinOp a .Add b pos) (f2 catD (fLs fa) (fLs fb)) := pe_imp (pe_op op_cat ha hb) fun σ H Q ⟨env, I, rl, q⟩ => ⟨env, I, rl, con_run (k := fun x => (fLs fb env).bind fun y => catD x y) q fun l p vs I1 H1 g1 h1 h2 q2 => ⟨env, I1, rl.grow g1, by
  have q3 : PostF X.K W σ I H (((fb env).bind lsD).bind fun y => catD (.lst l) y) Q := q2
  cases hs : fb env with
  | er c p => rw [hs] at q3; exact fun cls od I2 H2 g2 k => q3 cls od I2 H2 (g1.trans g2) k
  | no => rw [hs] at q3; exact q3.elim
  | ok dy =>
    rw [hs] at q3
    rcases D.lst_or dy with ⟨m, rfl⟩ | hd
    · intro p2 ws I2 H2 g2 h3 h4
      have q4 : PostF X.K W σ I H (if l.length + m.length ≤ sizeLine then .ok (.lst (l ++ m)) else .no) Q := q3
      by_cases hz : l.length + m.length ≤ sizeLine
      · rw [if_pos hz] at q4
        refine ⟨p, p2, vs, ws, rfl, rfl, g2.h _ _ h1, h3, by rw [h2.length, h4.length]; exact hz, fun n hn => ?_⟩
        have i0 := Evl.fresh_back g2.ih hn
        exact q4 n _ I2 _ ((g1.trans g2).trans (Grow.hid g2.ih (Ex.new hn))) (Evl.fresh_back (g1.trans g2).h hn) i0 upd_same ((h2.mono g2.i).append h4)
      · rw [if_neg hz] at q4
        exact q4.elim
    · cases dy <;> first | exact absurd rfl (hd _) | exact q3.elim⟩⟩
/-- a content so many times, a new list -/
theorem vf_rep (ha : VL X W A H0 a fa) (hb : VE X W A H0 b fb) : VF X W A H0 (.BinOp a .Mult b pos) (f2 repD (fLs fa) fb) := pe_imp (pe_op op_rep ha hb) fun σ H Q ⟨env, I, rl, q⟩ => ⟨env, I, rl, con_run (k := fun x => (fb env).bind fun y => repD x y) q fun l p vs I1 H1 g1 h1 h2 q2 => ⟨env, I1, rl.grow g1, by
  have q3 : PostF X.K W σ I H ((fb env).bind fun y => repD (.lst l) y) Q := q2
  cases hs : fb env with
  | er c p => rw [hs] at q3; exact fun cls od I2 H2 g2 k => q3 cls od I2 H2 (g1.trans g2) k
  | no => rw [hs] at q3; exact q3.elim
  | ok dy =>
    rw [hs] at q3
    cases dy <;> try (exact q3.elim)
    rename_i k
    intro v I2 H2 g2 h4
    rw [h4.int_inv]
    have q4 : PostF X.K W σ I H (if -(2 ^ 63) ≤ k ∧ k < 2 ^ 63 ∧ l.length * k.toNat ≤ sizeLine then .ok (.lst (List.replicate k.toNat l).flatten) else .no) Q := q3
    by_cases hz : -(2 ^ 63) ≤ k ∧ k < 2 ^ 63 ∧ l.length * k.toNat ≤ sizeLine
    · rw [if_pos hz] at q4
      refine ⟨p, k, vs, rfl, rfl, g2.h _ _ h1, hz.1, hz.2.1, by rw [h2.length]; exact hz.2.2, fun n hn => ?_⟩
      have i0 := Evl.fresh_back g2.ih hn
      exact q4 n _ I2 _ ((g1.trans g2).trans (Grow.hid g2.ih (Ex.new hn))) (Evl.fresh_back (g1.trans g2).h hn) i0 upd_same ((h2.mono g2.i).rep _)
    · rw [if_neg hz] at q4
      exact q4.elim⟩⟩
theorem gcf_list {K : PySem.W.Frag} : GCF K (fun xs H Q => ∃ p ys, xs = [.ref p] ∧ (SqL K H p ys ∨ SqT K H p ys) ∧ ∀ l, H l = none → Q (.ref l) (upd H l (.lst ys))) [true] listD := by
  intro vs ds d I H Q ih ha e
  obtain ⟨x, rfl⟩ := one_of (argsLen ha)
  obtain ⟨v, rfl, hv⟩ := args1s ha
  cases x <;> try (cases e; done)
  · obtain ⟨a, us, rfl, h1, h2⟩ := hv.lst_inv
    exact ⟨_, (ok_inj e).symm, fun q => ⟨a, us, rfl, .inl (.inl (.inl (ih _ _ h1))), fun n hn => q n us I _ (Grow.hid ih (Ex.new hn)) hn (Evl.fresh_back ih hn) upd_same h2⟩⟩
  · obtain ⟨a, us, rfl, h1, h2⟩ := hv.tup_inv
    exact ⟨_, (ok_inj e).symm, fun q => ⟨a, us, rfl, .inr (h1.mono ih).sq, fun n hn => q n us I _ (Grow.hid ih (Ex.new hn)) hn (Evl.fresh_back ih hn) upd_same h2⟩⟩
  · obtain ⟨a, rfl, h1⟩ := hv.scr_inv
    exact ⟨_, (ok_inj e).symm, fun q => ⟨a, _, rfl, .inl (ex_l ih h1), fun n hn => q n _ I _ (Grow.hid ih (Ex.new hn)) hn (Evl.fresh_back ih hn) upd_same RdA.ints⟩⟩
theorem gc_tuple {K : PySem.W.Frag} : GC K (rTupN K) [true] tupleD := by
  intro vs ds d I H Q ih ha e q
  obtain ⟨x, rfl⟩ := one_of (argsLen ha)
  obtain ⟨v, rfl, hv⟩ := args1s ha
  cases x <;> try (cases e; done)
  · obtain ⟨a, us, rfl, h1, h2⟩ := hv.lst_inv
    cases ok_inj e
    exact ⟨a, us, rfl, .inl ⟨.inl (.inl (ih _ _ h1)), fun n ob hn hd => q (.ref n) _ _ (Grow.push ih hn) (.tup (.new hd) (h2.mono (Ex.new (Evl.fresh_back ih hn))))⟩⟩
  · obtain ⟨a, us, rfl, h1, h2⟩ := hv.tup_inv
    cases ok_inj e
    exact ⟨a, us, rfl, .inr ⟨(h1.mono ih).sq, q (.ref a) I H (Grow.refl ih) (.tup h1 h2)⟩⟩
section
variable {x : Str} {p : Pos}
/-- list(content), tuple(content) -/
theorem pa_con (ha : VL X W A H0 a fa) (hs : starEach (a :: []) X.env = (false, eval a X.env) :: starEach [] X.env := by rfl) : PA X [a] (tCons (rdC X.K W A H0 fa) tNil) := pa_cons ha pa_nil hs
theorem vf_listC (hm : X.mg "list" = none) (ha : VL X W A H0 a fa) (hg : Gl X "list" := by rfl) (hs : starEach (a :: []) X.env = (false, eval a X.env) :: starEach [] X.env := by rfl) (hpl : (backTo pos (starEach [] X.env)).any (·.1) = false := by rfl) : VF X W A H0 (.Call (.Name "list" p) [a] [] pos) (fLs fa) :=
  pe_imp (pe_callTy call_list_of hg hm (by decide +kernel) (pa_con ha hs) (by decide) (by decide) hs hpl) fun σ H Q ⟨env, I, rl, q⟩ => ⟨env, I, rl, con_run (k := R.ok) (by
    have q0 : PostF X.K W σ I H ((fa env).bind lsD) Q := q
    cases hf : (fa env).bind lsD with
    | ok d => rw [hf] at q0; exact q0
    | er c p => rw [hf] at q0; exact q0
    | no => rw [hf] at q0; exact q0) fun l p vs I1 H1 g1 h1 h2 q2 => ⟨p, vs, rfl, .inl (.inl (.inl h1)), fun n hn => q2 n vs I1 _ (g1.trans (Grow.hid g1.ih (Ex.new hn))) (Evl.fresh_back g1.h hn) (Evl.fresh_back g1.ih hn) upd_same h2⟩⟩
def tplD : D → R D
  | .lst l => .ok (.tup l)
  | _ => .no
theorem ve_tupleC (hm : X.mg "tuple" = none) (ha : VL X W A H0 a fa) (hg : Gl X "tuple" := by rfl) (hs : starEach (a :: []) X.env = (false, eval a X.env) :: starEach [] X.env := by rfl) (hpl : (backTo pos (starEach [] X.env)).any (·.1) = false := by rfl) : VE X W A H0 (.Call (.Name "tuple" p) [a] [] pos) (f1 tplD fa) :=
  pe_imp (pe_callTy call_tupN hg hm (by decide +kernel) (pa_con ha hs) (by decide) (by decide) hs hpl) fun σ H Q ⟨env, I, rl, q⟩ => ⟨env, I, rl, by
    have q0 : PostE X.K W σ I H ((fa env).bind tplD) Q := q
    cases hf : fa env with
    | er c p => rw [hf] at q0; exact q0
    | no => rw [hf] at q0; exact q0
    | ok d =>
      rw [hf] at q0
      rcases D.lst_or d with ⟨l, rfl⟩ | hd
      · exact fun p vs I1 H1 g1 h1 h2 => ⟨p, vs, rfl, .inl ⟨.inl (.inl h1), fun n ob hn hb => q0 (.ref n) _ _ (g1.trans (Grow.push g1.ih hn)) (.tup (.new hb) (h2.mono (Ex.new (Evl.fresh_back g1.ih hn))))⟩⟩
      · cases d <;> first | exact absurd rfl (hd _) | exact q0.elim⟩
end

/-! ### slices -/
def rdO (K : PySem.W.Frag) (W : WX) (A H0 : Hp) (f : FO) : TO := fun σ H Q => ∃ env I, Rel K A H0 env σ I H ∧ match f env with
  | .ok o => ∀ I' H', Grow I H I' H' → Q o H'
  | .er c p => ∀ cls od I' H', Grow I H I' H' → ErrIs K c p cls od I' → W cls od σ H'
  | .no => False
def VO (X : Cx) (W : WX) (A H0 : Hp) (e : Option Expr) (f : FO) : Prop := PO X e (rdO X.K W A H0 f)
theorem vo_none : VO X W A H0 none oN := ⟨fun pins s σ H Q I ⟨env, I', r, q⟩ => po_none.run pins s σ H Q I (q I' H (Grow.refl r.g.ih))⟩
theorem vo_some (h : VE X W A H0 e f) : VO X W A H0 (some e) (oS f) := ⟨fun pins s σ H Q I ⟨env, I', r, q⟩ => (po_some h).run pins s σ H Q I ⟨env, I', r, by
  unfold oS at q
  cases hf : f env with
  | ok d =>
    rw [hf] at q
    cases d <;> try (exact q.elim)
    intro v I2 H2 g k
    rw [k.int_inv]
    exact ⟨_, rfl, q I2 H2 g⟩
  | er c p => rw [hf] at q; exact q
  | no => rw [hf] at q; exact q⟩⟩
theorem SlR.or2 {r r' : V → Option Int → Option Int → Hp → VK → Prop} (h : SlR X r) (h' : SlR X r') : SlR X (fun x l u H Q => r x l u H Q ∨ r' x l u H Q) := by
  intro pins s σ H x v vl vu lo hi sl Q I rx hs pl pu q
  exact q.elim (h pins s σ H x v vl vu lo hi sl Q I rx hs pl pu) (h' pins s σ H x v vl vu lo hi sl Q I rx hs pl pu)
theorem cutL_rd {K : PySem.W.Frag} {I : Hp} {vs : List V} {ds : List D} (h : RdA K I vs ds) (lo hi : Option Int) : RdA K I (cutV vs lo hi) (cutL ds lo hi) := by
  unfold cutV cutL
  rw [h.length]
  exact (h.drop _).take _
theorem cutL_map {α β : Type} (f : α → β) (l : List α) (lo hi : Option Int) : cutL (l.map f) lo hi = (cutL l lo hi).map f := by
  unfold cutL
  rw [List.length_map, List.map_take, List.map_drop]
theorem cutL_whole {α : Type} {l : List α} {lo hi : Option Int} (h : HT.sIx l.length 0 lo = 0 ∧ HT.sIx l.length l.length hi = l.length) : cutL l lo hi = l := by
  unfold cutL
  rw [h.1, h.2, List.drop_zero, Nat.sub_zero, List.take_length]
theorem ve_slice {lo hi : Option Expr} {fl fh : FO} {p2 : Pos} (ha : VE X W A H0 a fa) (hl : VO X W A H0 lo fl) (hh : VO X W A H0 hi fh) : VE X W A H0 (.Subscript a (.Slice lo hi none p2) pos) (fSl fa fl fh) :=
  pe_imp (pe_slice (SlR.or2 (SlR.or2 sl_list sl_tupN) sl_str) ha hl hh) fun σ H Q ⟨env, I, rl, q⟩ => ⟨env, I, rl, by
    have q0 : PostE X.K W σ I H ((fa env).bind fun d => (fl env).bind fun l => (fh env).bind fun h => sliceD d l h) Q := q
    cases hf : fa env with
    | er c p => rw [hf] at q0; exact q0
    | no => rw [hf] at q0; exact q0.elim
    | ok d =>
      rw [hf] at q0
      refine fun v I1 H1 g1 k1 => ⟨env, I1, rl.grow g1, ?_⟩
      have q1 : PostE X.K W σ I H ((fl env).bind fun l => (fh env).bind fun h => sliceD d l h) Q := q0
      cases hl : fl env with
      | er c p => rw [hl] at q1; exact fun cls od I2 H2 g2 k => q1 cls od I2 H2 (g1.trans g2) k
      | no => rw [hl] at q1; exact q1.elim
      | ok l =>
        rw [hl] at q1
        refine fun I2 H2 g2 => ⟨env, I2, (rl.grow g1).grow g2, ?_⟩
        have q2 : PostE X.K W σ I H ((fh env).bind fun h => sliceD d l h) Q := q1
        cases hh : fh env with
        | er c p => rw [hh] at q2; exact fun cls od I3 H3 g3 k => q2 cls od I3 H3 ((g1.trans g2).trans g3) k
        | no => rw [hh] at q2; exact q2.elim
        | ok h =>
          rw [hh] at q2
          intro I3 H3 g3
          have gg := (g1.trans g2).trans g3
          have k3 := k1.mono (g2.trans g3).i
          have q3 : PostE X.K W σ I H (sliceD d l h) Q := q2
          cases d <;> try (exact q3.elim)
          · rename_i z
            have q4 : PostE X.K W σ I H (if z.length ≤ sizeLine then .ok (.str (cutS z l h)) else .no) Q := q3
            by_cases hz : z.length ≤ sizeLine
            · rw [if_pos hz] at q4
              exact .inr ⟨z, k3.str_inv, hz, q4 _ I3 H3 gg .str⟩
            · rw [if_neg hz] at q4
              exact q4.elim
          · obtain ⟨p, vs, rfl, h1, h2⟩ := k3.lst_inv
            exact .inl (.inl ⟨p, vs, rfl, .inl (.inl (gg.ih _ _ h1)), fun n hn => q3 (.ref n) _ _ (gg.trans (Grow.push gg.ih hn)) (.lst upd_same ((cutL_rd h2 l h).mono (Ex.new (Evl.fresh_back gg.ih hn))))⟩)
          · obtain ⟨p, vs, rfl, h1, h2⟩ := k3.tup_inv
            refine .inl (.inr ⟨p, vs, rfl, (h1.mono gg.ih).sq, fun hw => ?_, fun _ n ob hn hb => q3 (.ref n) _ _ (gg.trans (Grow.push gg.ih hn)) (.tup (.new hb) ((cutL_rd h2 l h).mono (Ex.new (Evl.fresh_back gg.ih hn))))⟩)
            have q4 := q3 (.ref p) I3 H3 gg
            rw [h2.length] at hw
            rw [cutL_whole hw] at q4
            exact q4 (.tup h1 h2)
          · rename_i ns
            obtain ⟨p, rfl, h1⟩ := k3.scr_inv
            refine .inl (.inl ⟨p, _, rfl, ex_l gg.ih h1, fun n hn => q3 (.ref n) _ _ (gg.trans (Grow.push gg.ih hn)) (.lst upd_same ?_)⟩)
            have h5 := cutL_rd (RdA.ints (K := X.K) (I := upd I3 n (.lst (cutV (ns.map V.int) l h))) (ns := ns)) l h
            rw [cutL_map] at h5
            exact h5⟩
/-- a slice of a content, a new list -/
theorem vf_slice {lo hi : Option Expr} {fl fh : FO} {p2 : Pos} (ha : VL X W A H0 a fa) (hl : VO X W A H0 lo fl) (hh : VO X W A H0 hi fh) : VF X W A H0 (.Subscript a (.Slice lo hi none p2) pos) (fSl (fLs fa) fl fh) :=
  pe_imp (pe_slice sl_list ha hl hh) fun σ H Q ⟨env, I, rl, q⟩ => ⟨env, I, rl, con_run (k := fun d => (fl env).bind fun l => (fh env).bind fun h => sliceD d l h) q fun xs p vs I1 H1 g1 h1 h2 q1 => ⟨env, I1, rl.grow g1, by
    have q1 : PostF X.K W σ I H ((fl env).bind fun l => (fh env).bind fun h => sliceD (.lst xs) l h) Q := q1
    cases hl : fl env with
    | er c p => rw [hl] at q1; exact fun cls od I2 H2 g2 k => q1 cls od I2 H2 (g1.trans g2) k
    | no => rw [hl] at q1; exact q1.elim
    | ok l =>
      rw [hl] at q1
      refine fun I2 H2 g2 => ⟨env, I2, (rl.grow g1).grow g2, ?_⟩
      have q2 : PostF X.K W σ I H ((fh env).bind fun h => sliceD (.lst xs) l h) Q := q1
      cases hh : fh env with
      | er c p => rw [hh] at q2; exact fun cls od I3 H3 g3 k => q2 cls od I3 H3 ((g1.trans g2).trans g3) k
      | no => rw [hh] at q2; exact q2.elim
      | ok h =>
        rw [hh] at q2
        intro I3 H3 g3
        have gg := (g1.trans g2).trans g3
        exact ⟨p, vs, rfl, .inl (.inl ((g2.trans g3).h _ _ h1)), fun n hn => q2 n _ I3 _ (gg.trans (Grow.hid gg.ih (Ex.new hn))) (Evl.fresh_back gg.h hn) (Evl.fresh_back gg.ih hn) upd_same ((cutL_rd h2 l h).mono (g2.trans g3).i)⟩⟩⟩

/-! ### list(range(..)) -/
def rgF (f : F) : F := f1 (fun
  | .int n => if 0 ≤ n ∧ n ≤ 16777216 then .ok (.lst (rangeL 0 n.toNat)) else .no
  | _ => .no) f
theorem vf_listRg {p p2 pos2 : Pos} (hc : X.calm = true) (hm : X.mg "list" = none) (hm2 : X.mg "range" = none) (ha : VE X W A H0 a fa) (hg : Gl X "list" := by rfl) (hg2 : Gl X "range" := by rfl) (na : starEach [a] X.env = (false, eval a X.env) :: starEach [] X.env := by rfl)
    (na2 : starEach [.Call (.Name "range" p2) [a] [] pos2] X.env = (false, eval (.Call (.Name "range" p2) [a] [] pos2) X.env) :: starEach [] X.env := by rfl) : VF X W A H0 (.Call (.Name "list" p) [.Call (.Name "range" p2) [a] [] pos2] [] pos) (rgF fa) :=
  pe_imp (pe_listRg hc hg hm (prg_1 hg2 hm2 ha na) na2) fun σ H Q ⟨env, I, rl, q⟩ => ⟨env, I, rl, by
    have q0 : PostF X.K W σ I H ((fa env).bind fun | .int n => if 0 ≤ n ∧ n ≤ 16777216 then .ok (.lst (rangeL 0 n.toNat)) else .no | _ => .no) Q := q
    cases hf : fa env with
    | er c p => rw [hf] at q0; exact q0
    | no => rw [hf] at q0; exact q0.elim
    | ok d =>
      rw [hf] at q0
      cases d <;> try (exact q0.elim)
      rename_i n
      intro v I1 H1 g1 k
      rw [k.int_inv]
      have q1 : PostF X.K W σ I H (if 0 ≤ n ∧ n ≤ 16777216 then .ok (.lst (rangeL 0 n.toNat)) else .no) Q := q0
      by_cases hn : 0 ≤ n ∧ n ≤ 16777216
      · rw [if_pos hn] at q1
        refine ⟨n, rfl, RgOk.of_le (Int.le_refl _) hn.2 (by decide) hn.1, fun m hm' => ?_⟩
        refine q1 m _ I1 _ (g1.trans (Grow.hid g1.ih (Ex.new hm'))) (Evl.fresh_back g1.h hm') (Evl.fresh_back g1.ih hm') upd_same ?_
        have e : (n - 0).toNat = n.toNat := by omega
        unfold rgV rangeL
        rw [e]
        generalize n.toNat = k
        have : ∀ l : List Nat, RdA X.K I1 (l.map fun i => V.int (0 + (i : Nat))) (l.map fun i => D.int (0 + (i : Nat))) := fun l => by
          induction l with
          | nil => exact .nil
          | cons a r ih => exact .cons .int ih
        exact this _
      · rw [if_neg hn] at q1
        exact q1.elim⟩

/-! ### isinstance, truth -/
theorem tyn_x {K : PySem.W.Frag} {H : Hp} {v : V} {d : D} {t : String} (h : Rd K H v d) (e : tyn d = some t) : (∃ o, v = .ref o ∧ ∃ ns, d = .scr ns) ∨ TyX K H v (.type t) := by
  cases h <;> try (cases e; done)
  · cases e; exact .inr (.base .non)
  · cases e; exact .inr (.base (.bl _))
  · cases e; exact .inr (.base (.int _))
  · cases e; exact .inr (.base (.str _))
  · cases e; exact .inr (.base (.lst (by assumption)))
  · cases e; rename_i h _; obtain ⟨ob, _, k⟩ := h; exact .inr (.fTuple k)
  · exact .inl ⟨_, rfl, _, rfl⟩
theorem ve_isi (T : String) {p q : Pos} (hm : X.mg "isinstance" = none) (hT : X.mg (Str.ofString T) = none) (hb : bootBuiltins (Str.ofString T) = some (.type T)) (ha : VB X W A H0 a fa) (hnT : Str.ofString T ≠ "__name__") (hg : Gl X "isinstance" := by rfl) (hg2 : Gl X (Str.ofString T) := by rfl) (hdT : (Str.ofString T == ("__debug__" : Str)) = false := by decide)
    (hs : starEach (a :: [.Name (Str.ofString T) q]) X.env = (false, eval a X.env) :: starEach [.Name (Str.ofString T) q] X.env := by rfl) (hs2 : starEach (.Name (Str.ofString T) q :: []) X.env = (false, eval (.Name (Str.ofString T) q) X.env) :: starEach [] X.env := by rfl) (hpl : (backTo pos (starEach [.Name (Str.ofString T) q] X.env)).any (·.1) = false := by rfl) :
    VE X W A H0 (.Call (.Name "isinstance" p) [a, .Name (Str.ofString T) q] [] pos) (f1 (fun | .scr _ => .no | d => isiD T d) fa) :=
  pe_imp (pe_callB call_isi hg hm (by decide +kernel) (pa_cons ha (pa_cons (pe_bltn (v := .ty T) hg2 hT hb rfl hnT hdT) pa_nil hs2) hs) (by decide) (by decide) hs hpl) fun σ H Q ⟨env, I, rl, q⟩ => ⟨env, I, rl, by
    have q0 : PostE X.K W σ I H ((fa env).bind fun | .scr _ => .no | d => isiD T d) Q := q
    cases hf : fa env with
    | er c p => rw [hf] at q0; exact q0
    | no => rw [hf] at q0; exact q0.elim
    | ok d =>
      rw [hf] at q0
      intro v I1 H1 g1 k
      have key : isiD T d = isiD T d → (∀ ns, d ≠ .scr ns) → PostE X.K W σ I H (isiD T d) Q → ∃ (x c : V) (t u : Value) (b : Bool), [v, V.ty T] = [x, c] ∧ ClsV c u ∧ TyX X.K H1 x t ∧ PySem.W.kitOne X.K t u = some b ∧ Q (.bl b) H1 := fun _ hn q1 => by
        unfold isiD at q1
        cases ht : tyn d with
        | none => rw [ht] at q1; exact q1.elim
        | some t =>
          rw [ht] at q1
          have q2 : PostE X.K W σ I H (match kitB t T with | some b => .ok (.bl b) | none => .no) Q := q1
          cases hk : kitB t T with
          | none => rw [hk] at q2; exact q2.elim
          | some b =>
            rw [hk] at q2
            rcases tyn_x k ht with ⟨_, _, ns, z⟩ | z
            · exact absurd z (hn ns)
            · exact ⟨v, .ty T, .type t, .type T, b, rfl, .ty T, z, kit_ty hk, q2 _ I1 H1 g1 .bl⟩
      cases d <;> first | exact key rfl (fun ns z => by cases z) q0 | exact q0.elim⟩
theorem vt_tru (ha : VB X W A H0 a fa) (he : ∀ whole, isTrue a X.env whole = (do let v ← whole; standAt a.pos; holding [v] (truthy v)) := by intro _; rfl) : VT X W A H0 a (f1 truD fa) := pt_imp (pt_truth ha he) fun σ H Q ⟨env, I, rl, q⟩ => ⟨env, I, rl, by
    have q0 : PostT X.K W σ I H ((fa env).bind truD) Q := q
    cases hf : fa env with
    | er c p => rw [hf] at q0; exact q0
    | no => rw [hf] at q0; exact q0.elim
    | ok d =>
      rw [hf] at q0
      intro v I1 H1 g1 k
      cases k <;> try (exact q0.elim)
      · exact ⟨_, rfl, q0 I1 H1 g1⟩
      · exact ⟨_, rfl, q0 I1 H1 g1⟩
      · exact ⟨_, rfl, q0 I1 H1 g1⟩
      · rename_i h1 h2
        refine ⟨_, .inl ⟨_, .inl (.inl h1), rfl⟩, ?_⟩
        have z := q0 I1 H1 g1
        cases h2 <;> exact z
      · rename_i h1 h2
        refine ⟨_, .inr (.inl ⟨_, h1.sq, rfl⟩), ?_⟩
        have z := q0 I1 H1 g1
        cases h2 <;> exact z
      · rename_i ns h1
        refine ⟨_, .inl ⟨_, h1, rfl⟩, ?_⟩
        have z := q0 I1 H1 g1
        cases ns <;> exact z⟩
end

/-! ### defs by their names -/
structure Cal (P : Program) (w : World) (K : PySem.W.Frag) (mg : Str → Option Value) (base : Heap) (x : Str) (k : Nat) (fl : List Bool) (m : List D → R D) : Prop where
  ex : ∃ (f : Addr) (fd : FuncData) (ps : List Str), FnOk P w K mg base (L2.CX P w) k f fd ps (spF K fl m) ∧ mg x = some (.ref f) ∧ PySem.W.keepIn K (.ref f) = true ∧ Binds K fd ps []
structure CalN (P : Program) (w : World) (K : PySem.W.Frag) (mg : Str → Option Value) (base : Heap) (x : Str) (k : Nat) (fl : List Bool) (m : List D → R D) : Prop where
  ex : ∃ (f : Addr) (fd : FuncData) (ps : List Str), FnOk P w K mg base (L2.CX P w) k f fd ps (spN K fl m) ∧ mg x = some (.ref f) ∧ PySem.W.keepIn K (.ref f) = true ∧ Binds K fd ps []
section
variable {P : Program} {w : World} {K : PySem.W.Frag} {mg : Str → Option Value} {base : Heap} {y : Str} {k : Nat} {fl : List Bool} {m m' : List D → R D}
theorem Cal.eq (h : Cal P w K mg base y k fl m) (e : m = m') : Cal P w K mg base y k fl m' := e ▸ h
theorem CalN.eq (h : CalN P w K mg base y k fl m) (e : m = m') : CalN P w K mg base y k fl m' := e ▸ h
end
section
variable {X : Cx} {W : WX} {A H0 : Hp} {e : Expr} {pos : Pos} {x : Str} {j k : Nat} {fl : List Bool} {m : List D → R D} {es : List Expr} {fs : FA} {p : Pos}
theorem ve_cal (C : Cal X.prog X.w X.K X.mg X.base x k fl m) (hr : Room j X.A) (tk : Takes X W) (ha : VA X W A H0 (e :: es) fl fs) (hk : k ≤ j := by decide) (hg : Gl X x := by rfl) (hdb : (x == ("__debug__" : Str)) = false := by decide) (he : starEach (e :: es) X.env = (false, eval e X.env) :: starEach es X.env := by rfl) (hpl : (backTo pos (starEach es X.env)).any (·.1) = false := by rfl) :
    VE X W A H0 (.Call (.Name x p) (e :: es) [] pos) (fA m fs) := by
  obtain ⟨f, fd, ps, F0, h1, h2, h3⟩ := C.ex
  exact ve_call F0 (hr.mono hk) tk h1 h2 h3 ha hg hdb he hpl
theorem vf_cal (C : CalN X.prog X.w X.K X.mg X.base x k fl m) (hr : Room j X.A) (tk : Takes X W) (ha : VA X W A H0 (e :: es) fl fs) (hk : k ≤ j := by decide) (hg : Gl X x := by rfl) (hdb : (x == ("__debug__" : Str)) = false := by decide) (he : starEach (e :: es) X.env = (false, eval e X.env) :: starEach es X.env := by rfl) (hpl : (backTo pos (starEach es X.env)).any (·.1) = false := by rfl) :
    VF X W A H0 (.Call (.Name x p) (e :: es) [] pos) (fA m fs) := by
  obtain ⟨f, fd, ps, F0, h1, h2, h3⟩ := C.ex
  exact vf_call F0 (hr.mono hk) tk h1 h2 h3 ha hg hdb he hpl
end
end BW
/-! BCore12: the end of a law. -/
namespace BW
open PySem PySem.Spec PyProof.Rows L2
open Evl (Ex Ex.refl Ex.trans Ex.new ex_rd ex_l ex_t)
section
variable {X : Cx} {W : WX} {A H0 : Hp} {a b e : Expr} {fa fb f : F} {pos : Pos}
theorem post_te {K : PySem.W.Frag} {σ : L2.St} {I H : Hp} {r : R D} {Q : Bool → Hp → Prop} (q : PostT K W σ I H r Q) : PostE K W σ I H r (fun x H' => ∃ k, x = .bl k ∧ Q k H') := by
  cases r with
  | ok d =>
    cases d <;> try (exact q.elim)
    exact fun v I' H' g k => ⟨_, k.bl_inv, q I' H' g⟩
  | er c p => exact q
  | no => exact q.elim
theorem vt_cmp {op : CmpOp} {r : R2} {g : D → D → R D} (ho : OpR X (compareOp op) r) (hs : SOp X.K r g) (hn : NoEr g) (ha : VB X W A H0 a fa) (hb : VB X W A H0 b fb) (hm : behindInMarks op b = false) : VT X W A H0 (.Compare a [op] [b] pos) (f2 g fa fb) :=
  pt_imp (pt_cmpR ho ha hb hm) fun _ _ _ ⟨env, I, rl, q⟩ => op2_run hs hn ha hb ⟨env, I, rl, post_te q⟩
theorem vt_lt (ha : VB X W A H0 a fa) (hb : VB X W A H0 b fb) : VT X W A H0 (.Compare a [.Lt] [b] pos) (f2 ltD fa fb) := vt_cmp op_lt so_lt ne_lt ha hb (nomark _)
theorem vt_le (ha : VB X W A H0 a fa) (hb : VB X W A H0 b fb) : VT X W A H0 (.Compare a [.LtE] [b] pos) (f2 leD fa fb) := vt_cmp op_le so_le ne_le ha hb (nomark _)
theorem vt_gt (ha : VB X W A H0 a fa) (hb : VB X W A H0 b fb) : VT X W A H0 (.Compare a [.Gt] [b] pos) (f2 gtD fa fb) := vt_cmp op_gt so_gt ne_gt ha hb (nomark _)
theorem vt_ge (ha : VB X W A H0 a fa) (hb : VB X W A H0 b fb) : VT X W A H0 (.Compare a [.GtE] [b] pos) (f2 geD fa fb) := vt_cmp op_ge so_ge ne_ge ha hb (nomark _)
theorem vt_eq (hu : X.A.units + 64 < cLine) (ha : VB X W A H0 a fa) (hb : VB X W A H0 b fb) : VT X W A H0 (.Compare a [.Eq] [b] pos) (f2 eqD fa fb) := vt_cmp (op_eqD hu) so_eq ner_eq ha hb (nomark _)
theorem vt_ne (hu : X.A.units + 64 < cLine) (ha : VB X W A H0 a fa) (hb : VB X W A H0 b fb) : VT X W A H0 (.Compare a [.NotEq] [b] pos) (f2 neD fa fb) := vt_cmp (op_neD hu) so_ne ner_ne ha hb (nomark _)
theorem vt_in (ha : VB X W A H0 a fa) (hb : VB X W A H0 b fb) (hm : behindInMarks .In b = false := by rfl) : VT X W A H0 (.Compare a [.In] [b] pos) (f2 inD fa fb) := vt_cmp (OpR.or op_in_seq op_in_str) so_in inD_ner ha hb hm
theorem vt_nin (ha : VB X W A H0 a fa) (hb : VB X W A H0 b fb) (hm : behindInMarks .NotIn b = false := by rfl) : VT X W A H0 (.Compare a [.NotIn] [b] pos) (f2 ninD fa fb) := vt_cmp (OpR.or op_notIn_seq op_notIn_str) so_nin ninD_ner ha hb hm
theorem vt_is (ha : VB X W A H0 a fa) (hb : VB X W A H0 b fb) : VT X W A H0 (.Compare a [.Is] [b] pos) (f2 isD fa fb) := vt_cmp (OpR.or op_isN op_isBl) so_is isD_ner ha hb (nomark _)
theorem vt_isn (ha : VB X W A H0 a fa) (hb : VB X W A H0 b fb) : VT X W A H0 (.Compare a [.IsNot] [b] pos) (f2 isnD fa fb) := vt_cmp (OpR.or op_notN op_notBl) so_isn isnD_ner ha hb (nomark _)
end
theorem quiet {P : Program} {w : World} {K : PySem.W.Frag} {mg : Str → Option Value} {base : Heap} {k : Nat} {f : Addr} {fd : FuncData} {ps : List Str} {sp : Sp} (h : FnOk P w K mg base (L2.CX P w) k f fd ps sp) : FnOk P w K mg base CX0 k f fd ps (fun vs H Q _ => sp vs H Q E0) :=
  ⟨fun vs H Q E q => h.len vs H Q E0 q, fun A outer s H args us vs Q E hr he hb hv hs => codeAny_mono (h.run A outer s H args us vs Q E0 hr he hb hv hs) fun r s' hq => by
    cases r with
    | ok fl => cases fl <;> exact hq
    | error e =>
      obtain ⟨_, _, _, _, _, _, _, _, _, _, _, _, z⟩ := hq
      exact z.elim⟩
/-- what is told of the law's def -/
def LawC (P : Program) (w : World) (K : PySem.W.Frag) (mg : Str → Option Value) (k : Nat) (m : List D → R D) : Prop :=
  ∃ fd : FuncData, (∀ (s : Shared) (us : List Value), us.length = (["_law_script"] : List Str).length → BindsTo s fd ⟨us, []⟩ ((["_law_script"] : List Str).zip us)) ∧ ∀ base : Heap, K.In base → base.Ns mainGlobals mg → FnOk P w K mg base (L2.CX P w) k (He.ga K "law") fd ["_law_script"] (spF K [true] m)
theorem law_end {P : Program} {w : World} {K : PySem.W.Frag} {mg : Str → Option Value} {fa : Addr} {h : Heap} {k : Nat} {m : List D → R D} (KX : K.In h) (hmg : mg "law" = some (.ref fa)) (hl : mg "law" = some (.ref (He.ga K "law"))) (C : LawC P w K mg k m) (ht : ∀ ns : List Int, ns.length ≤ 63 → m [.scr ns] = .ok (.bl true)) :
    ∃ (K : PySem.W.Frag) (fd : FuncData) (sp : Sp), K.In h ∧ (∀ (s : Shared) (u : Value), BindsTo s fd ⟨[u], []⟩ [("_law_script", u)]) ∧
        (∀ (H : Hp) (a : Addr) (ns : List Int), ns.length ≤ 63 → Only H → SqL K H a (ns.map V.int) → sp [.ref a] H (fun v _ => v = .bl true) fun _ _ _ => False) ∧
        ∀ base : Heap, K.In base → base.Ns mainGlobals mg → FnOk P w K mg base CX0 k fa fd ["_law_script"] sp := by
  obtain ⟨fd, hb, hF⟩ := C
  have e := hmg.symm.trans hl
  cases e
  refine ⟨K, fd, _, KX, fun s u => hb s [u] rfl, fun H a ns hn _ hS => ?_, fun base h1 h2 => quiet (hF base h1 h2)⟩
  refine ⟨[.scr ns], H, Evl.Ex.refl _, .st (.scr hS) .nil, ?_⟩
  rw [ht ns hn]
  exact fun v I' H' _ k => k.bl_inv
end BW
/-! BCore13: reckoning with the functions of a walk. -/
namespace BW
open PySem PySem.Spec PyProof.Rows L2
section
variable {α β : Type}
theorem bind_ok' (a : α) (f : α → R β) : (R.ok a).bind f = f a := rfl
theorem bind_er' (c p) (f : α → R β) : (R.er c p : R α).bind f = .er c p := rfl
theorem bindQ_ok' (a : α) (f : α → R β) : (R.ok a).bindQ f = f a := rfl
theorem of_ok' (env : En) (d : D) (k : D → SR) : SR.of env (.ok d) k = k d := rfl
theorem of_er' (env : En) (c p) (k : D → SR) : SR.of env (.er c p) k = .er env c p := rfl
theorem f1_e (g : D → R D) (a : F) (env : En) : f1 g a env = (a env).bind g := rfl
theorem f2_e (g : D → D → R D) (a b : F) (env : En) : f2 g a b env = (a env).bind fun x => (b env).bind fun y => g x y := rfl
theorem fA_e (g : List D → R D) (a : FA) (env : En) : fA g a env = (a env).bind g := rfl
theorem fC_e (d : D) (env : En) : fC d env = .ok d := rfl
theorem aNil_e (env : En) : aNil env = .ok [] := rfl
theorem aCons_e (a : F) (b : FA) (env : En) : aCons a b env = (a env).bind fun x => (b env).bind fun y => .ok (x :: y) := rfl
theorem fIf_e (t a b : F) (env : En) (c : Bool) (h : t env = .ok (.bl c)) : fIf t a b env = cond c (a env) (b env) := by unfold fIf; rw [h]; rfl
theorem gSet_e (i : Nat) (f : F) (env : En) : gSet i f env = .of env (f env) fun d => .nx (env.set i (.im d)) := rfl
theorem gRet_e (f : F) (env : En) : gRet f env = .of env (f env) fun d => .rt d := rfl
theorem gDrop_e (f : F) (env : En) : gDrop f env = .of env (f env) fun _ => .nx env := rfl
theorem gNext_e (env : En) : gNext env = .nx env := rfl
theorem gSeq_nx {a b : G} {env e : En} (h : a env = .nx e) : gSeq a b env = b e := by unfold gSeq; rw [h]
theorem gSeq_rt {a b : G} {env : En} {d : D} (h : a env = .rt d) : gSeq a b env = .rt d := by unfold gSeq; rw [h]
theorem gSeq_er {a b : G} {env e : En} {c p} (h : a env = .er e c p) : gSeq a b env = .er e c p := by unfold gSeq; rw [h]
theorem gSeq_e (a b : G) (env : En) : gSeq a b env = match a env with | .nx e => b e | r => r := rfl
theorem gIf_t {t : F} {a b : G} {env : En} (h : t env = .ok (.bl true)) : gIf t a b env = a env := by unfold gIf; rw [h]; rfl
theorem gIf_f {t : F} {a b : G} {env : En} (h : t env = .ok (.bl false)) : gIf t a b env = b env := by unfold gIf; rw [h]; rfl
theorem gIf_e {t : F} {a b : G} {env : En} {c : Bool} (h : t env = .ok (.bl c)) : gIf t a b env = cond c (a env) (b env) := by unfold gIf; rw [h]; rfl
theorem and_e {a b : F} {env : En} {x y : Bool} (h1 : a env = .ok (.bl x)) (h2 : x = true → b env = .ok (.bl y)) : fAnd a b env = .ok (.bl (x && y)) := by
  unfold fAnd
  rw [h1]
  cases x with
  | true => show (b env).bind blR = _; rw [h2 rfl]; rfl
  | false => rfl
theorem or_e {a b : F} {env : En} {x y : Bool} (h1 : a env = .ok (.bl x)) (h2 : x = false → b env = .ok (.bl y)) : fOr a b env = .ok (.bl (x || y)) := by
  unfold fOr
  rw [h1]
  cases x with
  | true => rfl
  | false => show (b env).bind blR = _; rw [h2 rfl]; rfl
end
/-! ### loops -/
/-- a for: what holds between turns; what holds where it is left -/
theorem forF_rule {t : FT} {body : G} {ds : List D} (Iv : Nat → En → Prop) (Out : SR → Prop) (h : ∀ i d env, ds[i]? = some d → Iv i env → ∃ e1, t d env = .ok e1 ∧ ((∃ e2, (body e1 = .nx e2 ∨ body e1 = .ct e2) ∧ Iv (i + 1) e2) ∨ (∃ e2, body e1 = .bk e2 ∧ Out (.nx e2)) ∨ (∃ d, body e1 = .rt d ∧ Out (.rt d)) ∨ ∃ e c p, body e1 = .er e c p ∧ Out (.er e c p)))
    (hd : ∀ env, Iv ds.length env → Out (.nx env)) {env : En} (h0 : Iv 0 env) : Out (forF t body ds env) := by
  have key : ∀ (l : List D) (i : Nat) (env : En), ds.drop i = l → i ≤ ds.length → Iv i env → Out (forF t body l env) := by
    intro l
    induction l with
    | nil =>
      intro i env hl hi hv
      have : i = ds.length := by
        have := congrArg List.length hl
        rw [List.length_drop, List.length_nil] at this
        omega
      subst this
      exact hd env hv
    | cons d l ih =>
      intro i env hl hi hv
      have hlt : i < ds.length := by
        have := congrArg List.length hl
        rw [List.length_drop, List.length_cons] at this
        omega
      have hd0 : ds[i]? = some d := by
        have := congrArg (fun z => z[0]?) hl
        simpa [List.getElem?_drop] using this
      have hl2 : ds.drop (i + 1) = l := by
        have := congrArg (List.drop 1) hl
        simpa [List.drop_drop, Nat.add_comm] using this
      obtain ⟨e1, h1, h2⟩ := h i d env hd0 hv
      show Out (match t d env with | .ok e => (match body e with | .nx e => forF t body l e | .ct e => forF t body l e | .bk e => .nx e | r => r) | _ => .no)
      rw [h1]
      show Out (match body e1 with | .nx e => forF t body l e | .ct e => forF t body l e | .bk e => .nx e | r => r)
      rcases h2 with ⟨e2, h3 | h3, h4⟩ | ⟨e2, h3, h4⟩ | ⟨r, h3, h4⟩ | ⟨e, c, p, h3, h4⟩
      · rw [h3]; exact ih (i + 1) e2 hl2 hlt h4
      · rw [h3]; exact ih (i + 1) e2 hl2 hlt h4
      · rw [h3]; exact h4
      · rw [h3]; exact h4
      · rw [h3]; exact h4
  exact key ds 0 env rfl (Nat.zero_le _) h0
/-- a for that runs through -/
theorem forF_all {t : FT} {body : G} {ds : List D} (Iv : Nat → En → Prop) (h : ∀ i d env, ds[i]? = some d → Iv i env → ∃ e1 e2, t d env = .ok e1 ∧ (body e1 = .nx e2 ∨ body e1 = .ct e2) ∧ Iv (i + 1) e2) {env : En} (h0 : Iv 0 env) : ∃ e, forF t body ds env = .nx e ∧ Iv ds.length e :=
  forF_rule Iv (fun r => ∃ e, r = .nx e ∧ Iv ds.length e) (fun i d env hd hi => by
    obtain ⟨e1, e2, h1, h2, h3⟩ := h i d env hd hi
    exact ⟨e1, h1, .inl ⟨e2, h2, h3⟩⟩) (fun env hv => ⟨env, rfl, hv⟩) h0
theorem gFor_e {items : F} {t : FT} {body : G} {env : En} {ds : List D} (h : items env = .ok (.lst ds)) : gFor items t body env = forF t body ds env := by unfold gFor; rw [h]; rfl
/-- a while: a measure that falls -/
theorem whF_rule {c : F} {body : G} (Iv : En → Prop) (ms : En → Nat) (Out : SR → Prop) (h : ∀ env, Iv env → ∃ b, c env = .ok (.bl b) ∧ (b = false → Out (.nx env)) ∧ (b = true → (∃ e2, (body env = .nx e2 ∨ body env = .ct e2) ∧ Iv e2 ∧ ms e2 < ms env) ∨ (∃ e2, body env = .bk e2 ∧ Out (.nx e2)) ∨ (∃ d, body env = .rt d ∧ Out (.rt d)) ∨ ∃ e c p, body env = .er e c p ∧ Out (.er e c p))) :
    ∀ (n : Nat) (env : En), Iv env → ms env < n → Out (whF c body n env)
  | 0, _, _, hn => absurd hn (Nat.not_lt_zero _)
  | n + 1, env, hv, hn => by
    obtain ⟨b, h1, h2, h3⟩ := h env hv
    unfold whF
    rw [h1]
    cases b with
    | false => exact h2 rfl
    | true =>
      show Out (match body env with | .nx e => whF c body n e | .ct e => whF c body n e | .bk e => .nx e | r => r)
      rcases h3 rfl with ⟨e2, h4 | h4, h5, h6⟩ | ⟨e2, h4, h5⟩ | ⟨r, h4, h5⟩ | ⟨e, cc, p, h4, h5⟩
      · rw [h4]; exact whF_rule Iv ms Out h n e2 h5 (by omega)
      · rw [h4]; exact whF_rule Iv ms Out h n e2 h5 (by omega)
      · rw [h4]; exact h5
      · rw [h4]; exact h5
      · rw [h4]; exact h5
/-! ### comprehensions -/
theorem lcF_all {t : FT} {test elt : F} {env : En} {α : Type} (xs : List α) (enc : α → D) (p : α → Bool) (y : α → D) (h : ∀ x, x ∈ xs → ∃ e, t (enc x) env = .ok e ∧ test e = .ok (.bl (p x)) ∧ (p x = true → elt e = .ok (y x))) :
    lcF t test elt env (xs.map enc) = .ok ((xs.filter p).map y) := by
  induction xs with
  | nil => rfl
  | cons x r ih =>
    obtain ⟨e, h1, h2, h3⟩ := h x List.mem_cons_self
    have ih := ih fun z hz => h z (List.mem_cons_of_mem _ hz)
    show ((t (enc x) env).bindQ fun e => (test e).bindQ fun | .bl c => cond c ((elt e).bindQ fun y => (lcF t test elt env (r.map enc)).bindQ fun r => .ok (y :: r)) (lcF t test elt env (r.map enc)) | _ => .no) = _
    rw [h1]
    show ((test e).bindQ fun | .bl c => cond c ((elt e).bindQ fun y => (lcF t test elt env (r.map enc)).bindQ fun r => .ok (y :: r)) (lcF t test elt env (r.map enc)) | _ => .no) = _
    rw [h2]
    cases hp : p x with
    | true =>
      show ((elt e).bindQ fun y => (lcF t test elt env (r.map enc)).bindQ fun r => .ok (y :: r)) = _
      rw [h3 hp, ih, List.filter_cons_of_pos hp]
      rfl
    | false =>
      show lcF t test elt env (r.map enc) = _
      rw [ih, List.filter_cons_of_neg (by rw [hp]; decide)]
theorem lcF_map {t : FT} {elt : F} {env : En} {α : Type} (xs : List α) (enc : α → D) (y : α → D) (h : ∀ x, x ∈ xs → ∃ e, t (enc x) env = .ok e ∧ elt e = .ok (y x)) :
    lcF t (fC (.bl true)) elt env (xs.map enc) = .ok (xs.map y) := by
  have k := lcF_all (t := t) (test := fC (.bl true)) (elt := elt) (env := env) xs enc (fun _ => true) y fun x hx => by
    obtain ⟨e, h1, h2⟩ := h x hx
    exact ⟨e, h1, rfl, fun _ => h2⟩
  rw [k, List.filter_eq_self.mpr fun _ _ => rfl]
theorem fLc_e {items : F} {t : FT} {test elt : F} {own : List Nat} {env : En} {ds r : List D} (h : items env = .ok (.lst ds)) (hz : ds.length ≤ 16777216) (h2 : lcF t test elt (wipeE env own) ds = .ok r) : fLc items t test elt own env = .ok (.lst r) := by
  unfold fLc
  rw [h]
  show (if ds.length ≤ 16777216 then (lcF t test elt (wipeE env own) ds).bindQ fun r => R.ok (D.lst r) else R.no) = _
  rw [if_pos hz, h2]
  rfl
/-- so many numbers from one on -/
theorem rangeL_map (lo : Int) (n : Nat) : rangeL lo n = (List.range n).map fun k : Nat => D.int (lo + (k : Nat)) := rfl
theorem sz_line : sizeLine = 16777216 := by decide
/-! ### == -/
theorem eqS_int (a b : Int) : eqS (.int a) (.int b) = decide (a = b) := by
  show (a == b) = decide (a = b)
  rw [Bool.beq_eq_decide_eq]
theorem depthAll_ints : ∀ ns : List Int, PyData.depthAll (ns.map PyData.int) = 0
  | [] => rfl
  | _ :: r => by
    show max 0 (PyData.depthAll (r.map PyData.int)) = 0
    rw [depthAll_ints r]
    rfl
theorem canAll_ints : ∀ ns : List Int, PyData.canLayAll0 (ns.map PyData.int) = true
  | [] => rfl
  | _ :: r => by
    show (true && PyData.canLayAll0 (r.map PyData.int)) = true
    rw [canAll_ints r]
    rfl
theorem eqvAll_ints : ∀ (a b : List Int), PyData.eqvAll (a.map PyData.int) (b.map PyData.int) = decide (a = b)
  | [], [] => rfl
  | [], _ :: _ => rfl
  | _ :: _, [] => rfl
  | x :: a, y :: b => by
    show ((x == y) && PyData.eqvAll (a.map PyData.int) (b.map PyData.int)) = decide (x :: a = y :: b)
    rw [eqvAll_ints a b, Bool.beq_eq_decide_eq, ← Bool.decide_and]
    congr 1
    exact propext ⟨fun h => by rw [h.1, h.2], fun h => by injection h with h1 h2; exact ⟨h1, h2⟩⟩
theorem pyA_ints : ∀ ns : List Int, pyA (ns.map D.int) = some (ns.map PyData.int)
  | [] => rfl
  | n :: r => by
    show ((py (.int n)).bind fun x => (pyA (r.map D.int)).map fun xs => x :: xs) = _
    rw [pyA_ints r]
    rfl
theorem eqD_ints (a b : List Int) : eqD (.lst (a.map D.int)) (.lst (b.map D.int)) = .ok (.bl (decide (a = b))) := by
  show eqG _ _ = _
  unfold eqG
  have h : ∀ l : List Int, py (.lst (l.map D.int)) = some (.list (l.map PyData.int)) := fun l => by
    show (pyA (l.map D.int)).map PyData.list = _
    rw [pyA_ints]
    rfl
  rw [h, h]
  have s : ∀ l : List Int, SeqAt.shaped (.list (l.map PyData.int)) = true := fun l => by
    show (PyData.canLayAll0 (l.map PyData.int) && decide (PyData.depthAll (l.map PyData.int) + 1 ≤ 64)) = true
    rw [canAll_ints, depthAll_ints]
    rfl
  show (if (SeqAt.shaped (.list (a.map PyData.int)) && SeqAt.shaped (.list (b.map PyData.int))) = true then R.ok (D.bl (PyData.eqvAll (a.map PyData.int) (b.map PyData.int))) else R.no) = _
  rw [s, s, eqvAll_ints]
  rfl
theorem eqD_bl (a b : Bool) : eqD (.bl a) (.bl b) = .ok (.bl (decide (a = b))) := by cases a <;> cases b <;> rfl
theorem eqD_int (a b : Int) : eqD (.int a) (.int b) = .ok (.bl (decide (a = b))) := rfl
theorem neD_of {a b : D} {c : Bool} (h : eqD a b = .ok (.bl c)) : neD a b = .ok (.bl (!c)) := by unfold neD; rw [h]; rfl
/-! ### in -/
theorem allSc_int (l : List Int) : allSc (l.map D.int) = true := allSc_ints l
theorem any_eqS (x : Int) (l : List Int) : ((l.map D.int).any fun y => eqS y (.int x)) = decide (x ∈ l) := by
  induction l with
  | nil => rfl
  | cons a r ih =>
    rw [List.map_cons, List.any_cons, ih, eqS_int, ← Bool.decide_or]
    congr 1
    exact propext ⟨fun h => List.mem_cons.mpr (h.elim (fun z => .inl z.symm) .inr), fun h => (List.mem_cons.mp h).elim (fun z => .inl z.symm) .inr⟩
theorem inD_ints (x : Int) (l : List Int) : inD (.int x) (.lst (l.map D.int)) = .ok (.bl (decide (x ∈ l))) := by
  rw [inD_lst, allSc_int, any_eqS]
  rfl
theorem inD_intsT (x : Int) (l : List Int) : inD (.int x) (.tup (l.map D.int)) = .ok (.bl (decide (x ∈ l))) := by
  rw [inD_tup, allSc_int, any_eqS]
  rfl
theorem ninD_ints (x : Int) (l : List Int) : ninD (.int x) (.lst (l.map D.int)) = .ok (.bl (!decide (x ∈ l))) := by unfold ninD; rw [inD_ints]; rfl
theorem ninD_intsT (x : Int) (l : List Int) : ninD (.int x) (.tup (l.map D.int)) = .ok (.bl (!decide (x ∈ l))) := by unfold ninD; rw [inD_intsT]; rfl
/-! ### built-in functions -/
theorem sumD_ints (l : List Int) : sumD [.lst (l.map D.int)] = .ok (.int l.sum) := by
  show (match intsD (l.map D.int) with | some ns => R.ok (D.int ns.sum) | none => .no) = _
  rw [ints_map]
theorem maxD_ints {l : List Int} (h : l ≠ []) : maxD [.lst (l.map D.int)] = .ok (.int (maxL l)) := by
  show (match intsD (l.map D.int) with | some (n :: ns) => R.ok (D.int (maxL (n :: ns))) | _ => .no) = _
  rw [ints_map]
  cases l with
  | nil => exact absurd rfl h
  | cons => rfl
theorem minD_ints {l : List Int} (h : l ≠ []) : minD [.lst (l.map D.int)] = .ok (.int (minL l)) := by
  show (match intsD (l.map D.int) with | some (n :: ns) => R.ok (D.int (minL (n :: ns))) | _ => .no) = _
  rw [ints_map]
  cases l with
  | nil => exact absurd rfl h
  | cons => rfl
theorem sortedD_ints (l : List Int) : sortedD [.lst (l.map D.int)] = .ok (.lst ((sortI l).map D.int)) := by
  show (match intsD (l.map D.int) with | some ns => R.ok (D.lst ((sortI ns).map D.int)) | none => .no) = _
  rw [ints_map]
theorem allD_bls (l : List Bool) : allD [.lst (l.map D.bl)] = .ok (.bl (l.all id)) := by
  show (match boolsD (l.map D.bl) with | some bs => R.ok (D.bl (bs.all id)) | none => .no) = _
  rw [bools_map]
theorem anyD_bls (l : List Bool) : anyD [.lst (l.map D.bl)] = .ok (.bl (l.any id)) := by
  show (match boolsD (l.map D.bl) with | some bs => R.ok (D.bl (bs.any id)) | none => .no) = _
  rw [bools_map]
theorem ixN_nat {n j : Nat} (h : j < n) : ixN n (j : Int) = some j := by
  unfold ixN
  rw [if_pos (by omega), if_pos (by omega)]
  simp
theorem ix_lst {l : List D} {j : Nat} {d : D} (h : l[j]? = some d) : ixD (.lst l) (.int (j : Int)) = .ok d := by
  show (match atI l (j : Int) with | some d => R.ok d | none => .no) = _
  rw [atI_nat h]
theorem ix_tup {l : List D} {j : Nat} {d : D} (h : l[j]? = some d) : ixD (.tup l) (.int (j : Int)) = .ok d := by
  show (match atI l (j : Int) with | some d => R.ok d | none => .no) = _
  rw [atI_nat h]
theorem ix_scr {l : List Int} {j : Nat} {d : Int} (h : l[j]? = some d) : ixD (.scr l) (.int (j : Int)) = .ok (.int d) := by
  show (match atI l (j : Int) with | some d => R.ok (D.int d) | none => .no) = _
  rw [atI_nat h]
end BW
/-! BCore14: rewriting by which a mirror is run. -/
namespace BW
open PySem PySem.Spec PyProof.Rows L2
/-! ### expressions -/
section
variable {α β : Type}
@[simp] theorem r_bind_ok (a : α) (f : α → R β) : (R.ok a).bind f = f a := id rfl
@[simp] theorem r_bind_er (c p) (f : α → R β) : (R.er c p : R α).bind f = .er c p := id rfl
@[simp] theorem r_bindQ_ok (a : α) (f : α → R β) : (R.ok a).bindQ f = f a := id rfl
end
def R.b2 (x y : R D) (g : D → D → R D) : R D := x.bind fun a => y.bind fun b => g a b
@[simp] theorem b2_ok (a b : D) (g : D → D → R D) : R.b2 (.ok a) (.ok b) g = g a b := id rfl
@[simp] theorem b2_er (c p) (b : R D) (g : D → D → R D) : R.b2 (.er c p) b g = .er c p := id rfl
@[simp] theorem b2_er2 (a c p) (g : D → D → R D) : R.b2 (.ok a) (.er c p) g = .er c p := id rfl
def R.cn (x : R D) (y : R (List D)) : R (List D) := x.bind fun a => y.bind fun b => .ok (a :: b)
@[simp] theorem cn_ok (a b) : R.cn (.ok a) (.ok b) = .ok (a :: b) := id rfl
@[simp] theorem cn_er (c p) (b) : R.cn (.er c p) b = .er c p := id rfl
@[simp] theorem cn_er2 (a c p) : R.cn (.ok a) (.er c p) = .er c p := id rfl
@[simp] theorem s_fI0 (d e) : fI 0 (.im d :: e) = .ok d := id rfl
@[simp] theorem s_fIs (i s e) : fI (i + 1) (s :: e) = fI i e := id rfl
@[simp] theorem s_fL0 (d e) : fL 0 (.im d :: e) = .ok d := id rfl
@[simp] theorem s_fL0b (d e) : fL 0 (.bo d :: e) = .ok d := id rfl
@[simp] theorem s_fL0m (d e) : fL 0 (.mu d :: e) = .ok (.lst d) := id rfl
@[simp] theorem s_fLs (i s e) : fL (i + 1) (s :: e) = fL i e := id rfl
@[simp] theorem s_fV0 (d e) : fV 0 (.im (.lst d) :: e) = .ok (.lst d) := id rfl
@[simp] theorem s_fV0m (d e) : fV 0 (.mu d :: e) = .ok (.lst d) := id rfl
@[simp] theorem s_fVs (i s e) : fV (i + 1) (s :: e) = fV i e := id rfl
@[simp] theorem s_fM0m (d e) : fM 0 (.mu d :: e) = .ok (.lst d) := id rfl
@[simp] theorem s_fMs (i s e) : fM (i + 1) (s :: e) = fM i e := id rfl
@[simp] theorem s_fBs0 (d e) : fBs 0 (.bo (.lst d) :: e) = if allSc d then .ok (.lst d) else .no := id rfl
@[simp] theorem s_fBss (i s e) : fBs (i + 1) (s :: e) = fBs i e := id rfl
@[simp] theorem s_fC (d e) : fC d e = .ok d := id rfl
@[simp] theorem s_f1 (g a e) : f1 g a e = (a e).bind g := id rfl
@[simp] theorem s_f2 (g a b e) : f2 g a b e = R.b2 (a e) (b e) g := id rfl
@[simp] theorem s_fA (g a e) : fA g a e = (a e).bind g := id rfl
@[simp] theorem s_aNil (e) : aNil e = .ok [] := id rfl
@[simp] theorem s_aCons (a b e) : aCons a b e = R.cn (a e) (b e) := id rfl
@[simp] theorem s_fLs_ (f e) : fLs f e = (f e).bind lsD := id rfl
@[simp] theorem s_lsD (l) : lsD (.lst l) = .ok (.lst l) := id rfl
@[simp] theorem s_scD_i (l) : scD (.int l) = .ok (.int l) := id rfl
@[simp] theorem s_scD_b (l) : scD (.bl l) = .ok (.bl l) := id rfl
@[simp] theorem s_scD_s (l) : scD (.str l) = .ok (.str l) := id rfl
@[simp] theorem s_scD_n : scD .non = .ok .non := id rfl
def R.cnd (t : R D) (a b : F) (e : En) : R D := t.bind fun | .bl c => cond c (a e) (b e) | _ => .no
@[simp] theorem cnd_ok (c a b e) : R.cnd (.ok (.bl c)) a b e = cond c (a e) (b e) := id rfl
@[simp] theorem cnd_er (c p a b e) : R.cnd (.er c p) a b e = .er c p := id rfl
@[simp] theorem s_fIf (t a b e) : fIf t a b e = R.cnd (t e) a b e := id rfl
def R.an (t : R D) (b : F) (e : En) : R D := t.bind fun | .bl c => cond c ((b e).bind blR) (.ok (.bl false)) | _ => .no
@[simp] theorem an_ok (c b e) : R.an (.ok (.bl c)) b e = cond c ((b e).bind blR) (.ok (.bl false)) := id rfl
@[simp] theorem an_er (c p b e) : R.an (.er c p) b e = .er c p := id rfl
@[simp] theorem s_fAnd (t b e) : fAnd t b e = R.an (t e) b e := id rfl
def R.orr (t : R D) (b : F) (e : En) : R D := t.bind fun | .bl c => cond c (.ok (.bl true)) ((b e).bind blR) | _ => .no
@[simp] theorem orr_ok (c b e) : R.orr (.ok (.bl c)) b e = cond c (.ok (.bl true)) ((b e).bind blR) := id rfl
@[simp] theorem orr_er (c p b e) : R.orr (.er c p) b e = .er c p := id rfl
@[simp] theorem s_fOr (t b e) : fOr t b e = R.orr (t e) b e := id rfl
@[simp] theorem s_blR (c) : blR (.bl c) = .ok (.bl c) := id rfl
@[simp] theorem s_fNot (f e) : fNot f e = (f e).bind notD := id rfl
@[simp] theorem s_notD (c) : notD (.bl c) = .ok (.bl (!c)) := id rfl
@[simp] theorem cond_bl (c x y : Bool) : cond c (R.ok (D.bl x)) (R.ok (D.bl y)) = .ok (.bl (cond c x y)) := by cases c <;> rfl
@[simp] theorem s_seqD_l (l) : seqD (.lst l) = .ok (.lst l) := id rfl
@[simp] theorem s_seqD_t (l) : seqD (.tup l) = .ok (.lst l) := id rfl
@[simp] theorem s_seqD_s (l) : seqD (.scr l) = .ok (.lst (l.map D.int)) := id rfl
@[simp] theorem s_tupD (l) : tupD l = .ok (.tup l) := id rfl
@[simp] theorem s_lstD (l) : lstD l = .ok (.lst l) := id rfl
@[simp] theorem s_tplD (l) : tplD (.lst l) = .ok (.tup l) := id rfl
@[simp] theorem s_listD_l (l) : listD [.lst l] = .ok (.lst l) := id rfl
@[simp] theorem s_listD_t (l) : listD [.tup l] = .ok (.lst l) := id rfl
@[simp] theorem s_tupleD_l (l) : tupleD [.lst l] = .ok (.tup l) := id rfl
@[simp] theorem s_tupleD_t (l) : tupleD [.tup l] = .ok (.tup l) := id rfl
@[simp] theorem s_lenD_l (l) : lenD [.lst l] = .ok (.int (l.length : Nat)) := id rfl
@[simp] theorem s_lenD_t (l) : lenD [.tup l] = .ok (.int (l.length : Nat)) := id rfl
@[simp] theorem s_lenD_s (l) : lenD [.scr l] = .ok (.int (l.length : Nat)) := id rfl
@[simp] theorem s_absD (i : Int) : absD [.int i] = .ok (.int (i.natAbs : Nat)) := by
  show R.ok (D.int (if i < 0 then -i else i)) = _
  congr 2
  split <;> omega
@[simp] theorem s_intD_i (i) : intD [.int i] = .ok (.int i) := id rfl
@[simp] theorem s_intD_b (b : Bool) : intD [.bl b] = .ok (.int (cond b 1 0)) := by cases b <;> rfl
@[simp] theorem s_boolD_i (i) : boolD [.int i] = .ok (.bl (i != 0)) := id rfl
@[simp] theorem s_boolD_b (b : Bool) : boolD [.bl b] = .ok (.bl b) := id rfl
@[simp] theorem s_truD_b (b : Bool) : truD (.bl b) = .ok (.bl b) := id rfl
@[simp] theorem s_truD_i (b) : truD (.int b) = .ok (.bl (b != 0)) := id rfl
@[simp] theorem s_truD_l (b) : truD (.lst b) = .ok (.bl (!b.isEmpty)) := id rfl
@[simp] theorem s_truD_n : truD .non = .ok (.bl false) := id rfl
/-! ### reckoning -/
@[simp] theorem s_add (i j) : addD (.int i) (.int j) = .ok (.int (i + j)) := id rfl
@[simp] theorem s_sub (i j) : subD (.int i) (.int j) = .ok (.int (i - j)) := id rfl
@[simp] theorem s_neg (i) : negD (.int i) = .ok (.int (-i)) := id rfl
@[simp] theorem s_lt (i j) : ltD (.int i) (.int j) = .ok (.bl (decide (i < j))) := id rfl
@[simp] theorem s_le (i j) : leD (.int i) (.int j) = .ok (.bl (decide (i ≤ j))) := id rfl
@[simp] theorem s_gt (i j) : gtD (.int i) (.int j) = .ok (.bl (decide (j < i))) := id rfl
@[simp] theorem s_ge (i j) : geD (.int i) (.int j) = .ok (.bl (decide (j ≤ i))) := id rfl
@[simp] theorem s_eq (i j) : eqD (.int i) (.int j) = .ok (.bl (decide (i = j))) := id rfl
@[simp] theorem s_ne (i j : Int) : neD (.int i) (.int j) = .ok (.bl (!decide (i = j))) := id rfl
@[simp] theorem s_eqb (a b : Bool) : eqD (.bl a) (.bl b) = .ok (.bl (decide (a = b))) := eqD_bl a b
@[simp] theorem s_neb (a b : Bool) : neD (.bl a) (.bl b) = .ok (.bl (!decide (a = b))) := neD_of (eqD_bl a b)
@[simp] theorem s_isb (a b : Bool) : isD (.bl a) (.bl b) = .ok (.bl (decide (a = b))) := id rfl
@[simp] theorem s_isnb (a b : Bool) : isnD (.bl a) (.bl b) = .ok (.bl (!decide (a = b))) := id rfl
theorem fdiv_ok {i j : Int} (h : 0 < j) (h2 : j.natAbs.log2 < 9000) : fdivD (.int i) (.int j) = .ok (.int (i / j)) := if_pos ⟨h, h2⟩
theorem fdiv_lit {i : Int} {j : Nat} (h : decide (0 < (j : Int) ∧ (j : Int).natAbs.log2 < 9000) = true) : fdivD (.int i) (.int (j : Int)) = .ok (.int (i / j)) := if_pos (of_decide_eq_true h)
theorem mod_ok {i j : Int} (h : 0 < j) : modD (.int i) (.int j) = .ok (.int (i % j)) := if_pos h
theorem pow_ok {i : Int} {j : Nat} (h : i.natAbs < 2 ^ 64) (h2 : j ≤ 1000000) : powD (.int i) (.int (j : Int)) = .ok (.int (i ^ j)) := by
  show (if 0 ≤ (j : Int) ∧ (j : Int) ≤ 1000000 ∧ i.natAbs < 2 ^ 64 then R.ok (D.int (i ^ (j : Int).toNat)) else R.no) = _
  rw [if_pos ⟨by omega, by omega, h⟩, Int.toNat_natCast]
theorem shl_ok {i : Int} {j : Nat} (h : i.natAbs < 2 ^ 64) (h2 : j ≤ 1000000) : shlD (.int i) (.int (j : Int)) = .ok (.int (i * 2 ^ j)) := by
  show (if 0 ≤ (j : Int) ∧ (j : Int) ≤ 1000000 ∧ i.natAbs < 2 ^ 64 then R.ok (D.int (i * 2 ^ (j : Int).toNat)) else R.no) = _
  rw [if_pos ⟨by omega, by omega, h⟩, Int.toNat_natCast]
theorem shr_ok {i : Int} {j : Nat} : shrD (.int i) (.int (j : Int)) = .ok (.int (i / 2 ^ j)) := by
  show (if 0 ≤ (j : Int) then R.ok (D.int (i / 2 ^ (j : Int).toNat)) else R.no) = _
  rw [if_pos (by omega), Int.toNat_natCast]
theorem mul_ok {i j : Int} (h : smallI i = true ∨ smallI j = true) : mulD (.int i) (.int j) = .ok (.int (i * j)) := by
  simp only [mulD]
  rw [if_pos]
  rcases h with h | h <;> rw [h] <;> simp
theorem range1_ok {n : Nat} (h : n ≤ 16777216) : rangeD [.int (n : Int)] = .ok (.lst (rangeL 0 n)) := by
  simp only [rangeD]
  rw [if_pos ⟨by omega, by omega⟩, Int.toNat_natCast]
/-! ### statements -/
def SR.sq (r : SR) (b : G) : SR := match r with
  | .nx e => b e
  | r => r
@[simp] theorem sq_nx (e b) : SR.sq (.nx e) b = b e := id rfl
@[simp] theorem sq_rt (d b) : SR.sq (.rt d) b = .rt d := id rfl
@[simp] theorem sq_er (e c p b) : SR.sq (.er e c p) b = .er e c p := id rfl
@[simp] theorem sq_bk (e b) : SR.sq (.bk e) b = .bk e := id rfl
@[simp] theorem sq_ct (e b) : SR.sq (.ct e) b = .ct e := id rfl
@[simp] theorem s_gSeq (a b e) : gSeq a b e = SR.sq (a e) b := id rfl
@[simp] theorem s_gNext (e) : gNext e = .nx e := id rfl
@[simp] theorem s_gBreak (e) : gBreak e = .bk e := id rfl
@[simp] theorem s_gCont (e) : gCont e = .ct e := id rfl
@[simp] theorem of_ok_ (e d k) : SR.of e (.ok d) k = k d := id rfl
@[simp] theorem of_er_ (e c p k) : SR.of e (.er c p) k = .er e c p := id rfl
def SR.st (r : R D) (i : Nat) (e : En) : SR := .of e r fun d => .nx (e.set i (.im d))
@[simp] theorem st_ok (d i e) : SR.st (.ok d) i e = .nx (e.set i (.im d)) := id rfl
@[simp] theorem st_er (c p i e) : SR.st (.er c p) i e = .er e c p := id rfl
@[simp] theorem s_gSet (i f e) : gSet i f e = SR.st (f e) i e := id rfl
def SR.stM (r : R D) (i : Nat) (e : En) : SR := .of e r fun
  | .lst l => .nx (e.set i (.mu l))
  | _ => .no
@[simp] theorem stM_ok (d i e) : SR.stM (.ok (.lst d)) i e = .nx (e.set i (.mu d)) := id rfl
@[simp] theorem stM_er (c p i e) : SR.stM (.er c p) i e = .er e c p := id rfl
@[simp] theorem s_gSetM (i f e) : gSetM i f e = SR.stM (f e) i e := id rfl
def SR.dr (r : R D) (e : En) : SR := .of e r fun _ => .nx e
@[simp] theorem dr_ok (d e) : SR.dr (.ok d) e = .nx e := id rfl
@[simp] theorem dr_er (c p e) : SR.dr (.er c p) e = .er e c p := id rfl
@[simp] theorem s_gDrop (f e) : gDrop f e = SR.dr (f e) e := id rfl
def SR.rr (r : R D) (e : En) : SR := .of e r fun d => .rt d
@[simp] theorem rr_ok (d e) : SR.rr (.ok d) e = .rt d := id rfl
@[simp] theorem rr_er (c p e) : SR.rr (.er c p) e = .er e c p := id rfl
@[simp] theorem s_gRet (f e) : gRet f e = SR.rr (f e) e := id rfl
@[simp] theorem s_gRetM0 (l e) : gRetM 0 (.mu l :: e) = .rt (.lst l) := id rfl
@[simp] theorem s_gRetMs (i s e) : gRetM (i + 1) (s :: e) = gRetM i e := id rfl
@[simp] theorem s_gRetN (e) : gRetN e = .rt .non := id rfl
@[simp] theorem s_gRaise (c e) : gRaise c e = .er e c [] := id rfl
def SR.cnd (r : R D) (a b : G) (e : En) : SR := .of e r fun
  | .bl c => cond c (a e) (b e)
  | _ => .no
@[simp] theorem scnd_ok (c a b e) : SR.cnd (.ok (.bl c)) a b e = cond c (a e) (b e) := id rfl
@[simp] theorem scnd_er (c p a b e) : SR.cnd (.er c p) a b e = .er e c p := id rfl
@[simp] theorem s_gIf (t a b e) : gIf t a b e = SR.cnd (t e) a b e := id rfl
def Sl.frz : Sl → Sl
  | .mu l => .im (.lst l)
  | s => s
theorem gFrz_at {i : Nat} {l} {e : En} (h : e[i]? = some (.mu l)) : gFrz i e = .nx (e.set i (.im (.lst l))) := by unfold gFrz; rw [h]
theorem gFrz_no {i : Nat} {e : En} (h : ∀ l, e[i]? ≠ some (.mu l)) : gFrz i e = .nx e := by
  unfold gFrz
  split
  · rename_i l h2; exact absurd h2 (h l)
  · rfl
/-- what a statement at slot i of e does, by the slot -/
def SR.mt (l : List D) (r : R D) (k : List D → D → Option (List D)) (i : Nat) (e : En) : SR := .of e r fun d => (match k l d with
    | some m => .nx (e.set i (.mu m))
    | none => .no)
theorem gMut_at {i : Nat} {l} {e : En} {f k} (h : e[i]? = some (.mu l)) : gMut i f k e = SR.mt l (f e) k i e := by unfold gMut; rw [h]; rfl
theorem mt_ok {l d k i e m} (h : k l d = some m) : SR.mt l (.ok d) k i e = .nx (e.set i (.mu m)) := by
  show (match k l d with | some m => SR.nx (e.set i (.mu m)) | none => .no) = _
  rw [h]
theorem mt_app {l d i e} (h : l.length < 16777216) : SR.mt l (.ok d) kApp i e = .nx (e.set i (.mu (l ++ [d]))) := mt_ok (if_pos (sz_line ▸ h))
theorem mt_ext {l m i e} (h : l.length + m.length ≤ 16777216) : SR.mt l (.ok (.lst m)) kExt i e = .nx (e.set i (.mu (l ++ m))) := mt_ok (if_pos (sz_line ▸ h))
def SR.fo (r : R D) (t : FT) (b : G) (e : En) : SR := .of e r fun
  | .lst ds => forF t b ds e
  | _ => .no
@[simp] theorem fo_ok (ds t b e) : SR.fo (.ok (.lst ds)) t b e = forF t b ds e := id rfl
@[simp] theorem fo_er (c p t b e) : SR.fo (.er c p) t b e = .er e c p := id rfl
@[simp] theorem s_gFor (i t b e) : gFor i t b e = SR.fo (i e) t b e := id rfl
@[simp] theorem outD_rt (d) : outD (.rt d) = .ok d := id rfl
@[simp] theorem outD_nx (d) : outD (.nx d) = .ok .non := id rfl
@[simp] theorem outD_er (e c p) : outD (.er e c p) = .er c p := id rfl
@[simp] theorem outN_rt (d) : outN (.rt d) = .ok d := id rfl
@[simp] theorem outN_er (e c p) : outN (.er e c p) = .er c p := id rfl
@[simp] theorem s_tN (i d e) : tN i d e = .ok (e.set i (.im d)) := id rfl
@[simp] theorem s_tsNil (e) : tsNil [] e = .ok e := id rfl
@[simp] theorem s_tsCons (t u d ds e) : tsCons t u (d :: ds) e = (t d e).bind fun e => u ds e := id rfl
theorem s_tT (n u l e) : tT n u (.tup l) e = if l.length = n then u l e else .no := rfl
@[simp] theorem s_tT2 (u a b e) : tT 2 u (.tup [a, b]) e = u [a, b] e := id rfl
@[simp] theorem s_tT3 (u a b c e) : tT 3 u (.tup [a, b, c]) e = u [a, b, c] e := id rfl
end BW
namespace BW
open PySem PySem.Spec PyProof.Rows L2
/-- a for that runs through, whatever comes -/
theorem forF_inv {t : FT} {body : G} {ds : List D} (Iv : En → Prop) (h : ∀ d env, d ∈ ds → Iv env → ∃ e1 e2, t d env = .ok e1 ∧ (body e1 = .nx e2 ∨ body e1 = .ct e2) ∧ Iv e2) {env : En} (h0 : Iv env) : ∃ e, forF t body ds env = .nx e ∧ Iv e :=
  forF_all (fun _ => Iv) (fun i d env hd hi => h d env (List.mem_of_getElem? hd) hi) h0
@[simp] theorem s_isi_i (T : String) (n : Int) : (match (D.int n) with | .scr _ => R.no | d => isiD T d) = isiD T (.int n) := id rfl
end BW
namespace BW
open PySem PySem.Spec PyProof.Rows L2
def SR.muT (s : Option Sl) (r : R D) (k : List D → D → Option (List D)) (i : Nat) (e : En) : SR := match s with
  | some (.mu l) => SR.mt l r k i e
  | _ => .no
@[simp] theorem muT_mu (l r k i e) : SR.muT (some (.mu l)) r k i e = SR.mt l r k i e := id rfl
@[simp] theorem s_gMut (i f k) (e : En) : gMut i f k e = SR.muT e[i]? (f e) k i e := id rfl
def SR.fz (s : Option Sl) (i : Nat) (e : En) : SR := match s with
  | some (.mu l) => .nx (e.set i (.im (.lst l)))
  | _ => .nx e
@[simp] theorem fz_mu (l i e) : SR.fz (some (.mu l)) i e = .nx (e.set i (.im (.lst l))) := id rfl
@[simp] theorem fz_im (d i e) : SR.fz (some (.im d)) i e = .nx e := id rfl
@[simp] theorem fz_no (i e) : SR.fz (some .no) i e = .nx e := id rfl
@[simp] theorem s_gFrz (i) (e : En) : gFrz i e = SR.fz e[i]? i e := id rfl
@[simp] theorem sz_eq : sizeLine = 16777216 := sz_line
/-- a for over a mapped list, by an invariant -/
theorem forF_l {α : Type} {j : Nat} {body : G} (l : List α) (enc : α → D) (Iv : Nat → En → Prop) (h : ∀ i x env, l[i]? = some x → Iv i env → ∃ e2, (body (env.set j (.im (enc x))) = .nx e2 ∨ body (env.set j (.im (enc x))) = .ct e2) ∧ Iv (i + 1) e2) {env : En} (h0 : Iv 0 env) :
    ∃ e, forF (tN j) body (l.map enc) env = .nx e ∧ Iv l.length e := by
  have k := forF_all (t := tN j) (body := body) (ds := l.map enc) Iv (fun i d env hd hi => by
    rw [List.getElem?_map] at hd
    obtain ⟨x, h1, h2⟩ := Option.map_eq_some_iff.mp hd
    obtain ⟨e2, h3, h4⟩ := h i x env h1 hi
    subst h2
    exact ⟨_, e2, rfl, h3, h4⟩) h0
  rwa [List.length_map] at k
/-- .. whatever comes -/
theorem forF_lv {α : Type} {j : Nat} {body : G} (l : List α) (enc : α → D) (Iv : En → Prop) (h : ∀ x env, x ∈ l → Iv env → ∃ e2, (body (env.set j (.im (enc x))) = .nx e2 ∨ body (env.set j (.im (enc x))) = .ct e2) ∧ Iv e2) {env : En} (h0 : Iv env) :
    ∃ e, forF (tN j) body (l.map enc) env = .nx e ∧ Iv e := forF_l l enc (fun _ => Iv) (fun i x env hx hi => h x env (List.mem_of_getElem? hx) hi) h0
/-- a for over range(n) -/
theorem forF_rg {j : Nat} {body : G} (n : Nat) (Iv : Nat → En → Prop) (h : ∀ i env, i < n → Iv i env → ∃ e2, (body (env.set j (.im (.int (i : Nat)))) = .nx e2 ∨ body (env.set j (.im (.int (i : Nat)))) = .ct e2) ∧ Iv (i + 1) e2) {env : En} (h0 : Iv 0 env) :
    ∃ e, forF (tN j) body (rangeL 0 n) env = .nx e ∧ Iv n e := by
  have e : rangeL 0 n = (List.range n).map fun k : Nat => D.int (k : Int) := by
    rw [rangeL_map]
    exact List.map_congr_left fun k _ => by rw [Int.zero_add]
  rw [e]
  have k := forF_l (j := j) (body := body) (List.range n) (fun k : Nat => D.int (k : Int)) Iv (fun i x env hx hi => by
    have hl : i < n := by
      have := (List.getElem?_eq_some_iff.mp hx).1
      rwa [List.length_range] at this
    rw [List.getElem?_range hl] at hx
    cases hx
    exact h i env hl hi) h0
  rwa [List.length_range] at k
/-- a for that seeks: where p holds it is left with d -/
theorem forF_seek {α : Type} {j : Nat} {body : G} (l : List α) (enc : α → D) (p : α → Bool) (r : SR) (hr : (∃ d, r = .rt d) ∨ ∃ e c q, r = .er e c q) (Iv : En → Prop) (h : ∀ x env, x ∈ l → Iv env → (p x = true ∧ body (env.set j (.im (enc x))) = r) ∨ (p x = false ∧ ∃ e2, (body (env.set j (.im (enc x))) = .nx e2 ∨ body (env.set j (.im (enc x))) = .ct e2) ∧ Iv e2)) {env : En} (h0 : Iv env) :
    (l.any p = true ∧ forF (tN j) body (l.map enc) env = r) ∨ (l.any p = false ∧ ∃ e, forF (tN j) body (l.map enc) env = .nx e ∧ Iv e) := by
  induction l generalizing env with
  | nil => exact .inr ⟨rfl, env, rfl, h0⟩
  | cons x l ih =>
    have e : forF (tN j) body ((x :: l).map enc) env = match body (env.set j (.im (enc x))) with | .nx e => forF (tN j) body (l.map enc) e | .ct e => forF (tN j) body (l.map enc) e | .bk e => .nx e | r => r := rfl
    rw [e, List.any_cons]
    rcases h x env List.mem_cons_self h0 with ⟨h1, h2⟩ | ⟨h1, e2, h2, h3⟩
    · rw [h2, h1]
      refine .inl ⟨rfl, ?_⟩
      rcases hr with ⟨d, rfl⟩ | ⟨e, c, q, rfl⟩ <;> rfl
    · have k := ih (fun x env hx hi => h x env (List.mem_cons_of_mem _ hx) hi) h3
      rw [h1, Bool.false_or]
      rcases h2 with h2 | h2 <;> rw [h2] <;> exact k
end BW
namespace BW
open PySem PySem.Spec PyProof.Rows L2
@[simp] theorem s_mod {i j : Int} (h : 0 < j) : modD (.int i) (.int j) = .ok (.int (i % j)) := mod_ok h
theorem log_lit {j : Int} (h : 0 < j) (h2 : j ≤ 10 ^ 60) : j.natAbs.log2 < 9000 := by
  have k : j.natAbs.log2 < 200 := (Nat.log2_lt (by omega)).mpr (by
    have : (2 : Nat) ^ 200 = 1606938044258990275541962092341162602522202993782792835301376 := by decide
    omega)
  omega
@[simp] theorem s_fdiv {i j : Int} (h : 0 < j) (h2 : j ≤ 1000000000000000000) : fdivD (.int i) (.int j) = .ok (.int (i / j)) := fdiv_ok h (log_lit h (by omega))
@[simp] theorem s_pow {i j : Int} (h0 : 0 ≤ j) (h2 : j ≤ 1000000) (h : i.natAbs < 2 ^ 64) : powD (.int i) (.int j) = .ok (.int (i ^ j.toNat)) := by
  have e : powD (.int i) (.int j) = if 0 ≤ j ∧ j ≤ 1000000 ∧ i.natAbs < 2 ^ 64 then .ok (.int (i ^ j.toNat)) else .no := by simp only [powD]
  rw [e, if_pos ⟨h0, h2, h⟩]
@[simp] theorem s_shl {i j : Int} (h0 : 0 ≤ j) (h2 : j ≤ 1000000) (h : i.natAbs < 2 ^ 64) : shlD (.int i) (.int j) = .ok (.int (i * 2 ^ j.toNat)) := by
  have e : shlD (.int i) (.int j) = if 0 ≤ j ∧ j ≤ 1000000 ∧ i.natAbs < 2 ^ 64 then .ok (.int (i * 2 ^ j.toNat)) else .no := by simp only [shlD]
  rw [e, if_pos ⟨h0, h2, h⟩]
@[simp] theorem s_shr {i j : Int} (h0 : 0 ≤ j) : shrD (.int i) (.int j) = .ok (.int (i / 2 ^ j.toNat)) := if_pos h0
theorem smallI_of {i : Int} (h : -(2 ^ 64) < i) (h2 : i < 2 ^ 64) : smallI i = true := decide_eq_true ⟨h, h2⟩
@[simp] theorem s_mul1 {i j : Int} (h : smallI i = true) : mulD (.int i) (.int j) = .ok (.int (i * j)) := mul_ok (.inl h)
@[simp] theorem s_mul2 {i j : Int} (h : smallI j = true) : mulD (.int i) (.int j) = .ok (.int (i * j)) := mul_ok (.inr h)
@[simp] theorem s_range {n : Int} (h0 : 0 ≤ n) (h : n ≤ 16777216) : rangeD [.int n] = .ok (.lst (rangeL 0 n.toNat)) := by
  obtain ⟨k, rfl⟩ := Int.eq_ofNat_of_zero_le h0
  rw [range1_ok (by omega), Int.toNat_natCast]
@[simp] theorem s_mt_app {l d i e} (h : l.length < 16777216) : SR.mt l (.ok d) kApp i e = .nx (e.set i (.mu (l ++ [d]))) := mt_app h
@[simp] theorem s_mt_ext {l m i e} (h : l.length + m.length ≤ 16777216) : SR.mt l (.ok (.lst m)) kExt i e = .nx (e.set i (.mu (l ++ m))) := mt_ext h
@[simp] theorem s_cat {x y : List D} (h : x.length + y.length ≤ 16777216) : catD (.lst x) (.lst y) = .ok (.lst (x ++ y)) := if_pos (sz_line ▸ h)
end BW
/-! BCore15: own lists lent to a call. -/
namespace BW
open PySem PySem.Spec PyProof.Rows L2
open Evl (Ex Ex.refl Ex.trans Ex.new ex_rd ex_l ex_t)
/-! ### data without lists -/
mutual
def lf : D → Bool
  | .lst _ => false
  | .scr _ => false
  | .tup l => lfA l
  | .obj _ l => lfA l
  | .exc _ l => lfA l
  | .dct _ l => lfA l
  | .dtt _ l => lfA l
  | _ => true
def lfA : List D → Bool
  | [] => true
  | d :: ds => lf d && lfA ds
end
def lfD (d : D) : R D := if lf d then .ok d else .no
def lfL (d : D) : R D := match d with
  | .lst l => if lfA l then .ok (.lst l) else .no
  | _ => .no
/-- the told part, and all lists beside it -/
def lend (I H : Hp) : Hp := fun x => match I x with
  | some o => some o
  | none => match H x with
    | some (.lst vs) => some (.lst vs)
    | _ => none
/-- what is told behind the call, less the lists lent -/
def back (I J J' : Hp) : Hp := fun x => match I x with
  | some o => some o
  | none => match J x with
    | some _ => none
    | none => J' x
section
variable {K : PySem.W.Frag} {I H J J' H' : Hp}
theorem lend_i : Ex I (lend I H) := fun a u h => by unfold lend; rw [h]
theorem lend_h (e : Ex I H) : Ex (lend I H) H := fun a u h => by
  unfold lend at h
  cases q : I a with
  | some o =>
    rw [q] at h
    have h' : some o = some u := h
    rw [← h']
    exact e _ _ q
  | none =>
    rw [q] at h
    cases q2 : H a with
    | none => rw [q2] at h; cases h
    | some o =>
      rw [q2] at h
      cases o <;> first | exact h | cases h
theorem lend_lst {a : Addr} {vs : List V} (e : Ex I H) (h : H a = some (.lst vs)) : lend I H a = some (.lst vs) := by
  unfold lend
  cases q : I a with
  | some o =>
    have := e _ _ q
    rw [h] at this
    exact this.symm
  | none => rw [h]
theorem lend_new {a : Addr} {o : HO} (h : lend I H a = some o) : I a = some o ∨ ∃ vs, o = .lst vs := by
  unfold lend at h
  cases q : I a with
  | some u => rw [q] at h; exact .inl h
  | none =>
    rw [q] at h
    cases q2 : H a with
    | none => rw [q2] at h; cases h
    | some u =>
      rw [q2] at h
      cases u <;> first | (cases h; done) | exact .inr ⟨_, (Option.some.inj h).symm⟩
theorem back_i : Ex I (back I J J') := fun a u h => by unfold back; rw [h]
theorem back_le (e : Ex I J') : Ex (back I J J') J' := fun a u h => by
  unfold back at h
  cases q : I a with
  | some o =>
    rw [q] at h
    have h' : some o = some u := h
    rw [← h']
    exact e _ _ q
  | none =>
    rw [q] at h
    cases q2 : J a with
    | some o => rw [q2] at h; cases h
    | none => rw [q2] at h; exact h
theorem back_grow (ih : Ex I H) (g : Grow (lend I H) H J' H') : Grow I H (back I (lend I H) J') H' := by
  refine ⟨back_i, g.h, (back_le (lend_i.trans g.i)).trans g.ih, fun a o h => ?_⟩
  unfold back at h
  cases q : I a with
  | some u => rw [q] at h; exact .inl h
  | none =>
    rw [q] at h
    cases q2 : lend I H a with
    | some u => rw [q2] at h; cases h
    | none =>
      rw [q2] at h
      rcases g.new a o h with z | z
      · rw [q2] at z; cases z
      · exact .inr z
theorem back_none {a : Addr} (ih : Ex I H) (h : H a = none) (h' : J' a = none) : back I (lend I H) J' a = none := by
  unfold back
  rw [Evl.fresh_back ih h]
  show (match lend I H a with | some _ => none | none => J' a) = none
  rw [Evl.fresh_back (lend_h ih) h]
  exact h'
theorem back_get {a : Addr} {o : HO} (ij : Ex I J) (jj : Ex J J') (hl : ∀ a o, J a = some o → I a = some o ∨ ∃ vs, o = .lst vs) (h : J' a = some o) (no : ∀ vs, o ≠ .lst vs) : back I J J' a = some o := by
  unfold back
  cases q : I a with
  | some u =>
    have := jj _ _ (ij _ _ q)
    rw [h] at this
    exact this.symm
  | none =>
    cases q2 : J a with
    | some u =>
      have := jj _ _ q2
      rw [h] at this
      cases this
      rcases hl a o q2 with z | ⟨vs, z⟩
      · rw [q] at z; cases z
      · exact absurd z (no vs)
    | none => exact h
mutual
theorem Rd.back (ij : Ex I J) (jj : Ex J J') (hl : ∀ a o, J a = some o → I a = some o ∨ ∃ vs, o = .lst vs) : ∀ {v : V} {d : D}, Rd K J' v d → lf d = true → Rd K (back I J J') v d
  | _, _, .non, _ => .non
  | _, _, .bl, _ => .bl
  | _, _, .int, _ => .int
  | _, _, .str, _ => .str
  | _, _, .lst h q, e => by cases e
  | _, _, .tup ⟨ob, hd, h⟩ q, e => .tup ⟨ob, hd, back_get ij jj hl h (fun _ z => nomatch z)⟩ (RdA.back ij jj hl q e)
  | _, _, .scr h, e => by cases e
  | _, _, .obj h l q, e => .obj (back_get ij jj hl h (fun _ z => nomatch z)) l (RdA.back ij jj hl q e)
  | _, _, .exc0 h, _ => .exc0 (back_get ij jj hl h (fun _ z => nomatch z))
  | _, _, .exc1 (d := d) h k q, e => .exc1 (back_get ij jj hl h (fun _ z => nomatch z)) (back_get ij jj hl k (fun _ z => nomatch z)) (Rd.back ij jj hl q (Bool.and_eq_true_iff.mp (show (lf d && lfA []) = true from e)).1)
  | _, _, .dct h k q, e => .dct (back_get ij jj hl h (fun _ z => nomatch z)) k (RdA.back ij jj hl q e)
  | _, _, .dtt h k q, e => .dtt (back_get ij jj hl h (fun _ z => nomatch z)) k (RdA.back ij jj hl q e)
  | _, _, .adr, _ => .adr
theorem RdA.back (ij : Ex I J) (jj : Ex J J') (hl : ∀ a o, J a = some o → I a = some o ∨ ∃ vs, o = .lst vs) : ∀ {v : List V} {d : List D}, RdA K J' v d → lfA d = true → RdA K (back I J J') v d
  | _, _, .nil, _ => .nil
  | _, _, .cons (d := d) (ds := ds) h q, e => .cons (Rd.back ij jj hl h (Bool.and_eq_true_iff.mp (show (lf d && lfA ds) = true from e)).1) (RdA.back ij jj hl q (Bool.and_eq_true_iff.mp (show (lf d && lfA ds) = true from e)).2)
end
theorem ErrIs.back (ij : Ex I J) (jj : Ex J J') (hl : ∀ a o, J a = some o → I a = some o ∨ ∃ vs, o = .lst vs) {c : Nat} {p : List D} {cls : Value} {od : Option Addr} (h : ErrIs K c p cls od J') : ErrIs K c p cls od (back I J J') := by
  refine ⟨h.1, ?_⟩
  have h2 := h.2
  match p, h2 with
  | [], h2 => exact h2
  | [d], h2 =>
    obtain ⟨dx, v, h3, h4, h5⟩ := h2
    exact ⟨dx, v, h3, h4, back_get ij jj hl h5 (fun _ z => nomatch z)⟩
/-! ### arguments, some lent -/
inductive ArgsL (K : PySem.W.Frag) (I H : Hp) : List V → List D → Prop
  | nil : ArgsL K I H [] []
  | st {v d vs ds} : Rd K I v d → ArgsL K I H vs ds → ArgsL K I H (v :: vs) (d :: ds)
  | ln {a xs l vs ds} : H a = some (.lst xs) → RdA K I xs l → ArgsL K I H vs ds → ArgsL K I H (.ref a :: vs) (.lst l :: ds)
theorem ArgsL.ok (e : Ex I H) : ∀ {vs : List V} {ds : List D}, ArgsL K I H vs ds → ArgsOk K (lend I H) H (List.replicate ds.length true) vs ds
  | _, _, .nil => .nil
  | _, _, .st h q => .st (h.mono lend_i) (ArgsL.ok e q)
  | _, _, .ln h k q => .st (.lst (lend_lst e h) (k.mono lend_i)) (ArgsL.ok e q)
end
def PostAL (K : PySem.W.Frag) (W : WX) (σ : L2.St) (I H : Hp) (r : R (List D)) (Q : List V → Hp → Prop) : Prop := match r with
  | .ok ds => ∀ vs I' H', Grow I H I' H' → ArgsL K I' H' vs ds → Q vs H'
  | .er c p => ∀ cls od I' H', Grow I H I' H' → ErrIs K c p cls od I' → W cls od σ H'
  | .no => False
def rdAL (K : PySem.W.Frag) (W : WX) (A H0 : Hp) (f : FA) : TA := fun σ H Q => ∃ env I, Rel K A H0 env σ I H ∧ PostAL K W σ I H (f env) Q
def VAL (X : Cx) (W : WX) (A H0 : Hp) (es : List Expr) (f : FA) : Prop := PA X es (rdAL X.K W A H0 f)
section
variable {X : Cx} {W : WX} {A H0 : Hp} {e : Expr} {f : F} {es : List Expr} {fs : FA}
theorem val_nil : VAL X W A H0 [] aNil := pa_imp pa_nil fun σ H Q ⟨env, I, r, q⟩ => q [] I H (Grow.refl r.g.ih) .nil
theorem val_st (h : VE X W A H0 e f) (hr : VAL X W A H0 es fs) (hs : starEach (e :: es) X.env = (false, eval e X.env) :: starEach es X.env := by rfl) : VAL X W A H0 (e :: es) (aCons f fs) :=
  pa_imp (pa_cons h hr hs) fun σ H Q ⟨env, I, r, q⟩ => ⟨env, I, r, by
    have q' : PostAL X.K W σ I H ((f env).bind fun x => (fs env).bind fun y => .ok (x :: y)) Q := q
    cases hf : f env with
    | er c p => rw [hf] at q'; exact q'
    | no => rw [hf] at q'; exact q'.elim
    | ok d =>
      rw [hf] at q'
      have q2 : PostAL X.K W σ I H ((fs env).bind fun y => .ok (d :: y)) Q := q'
      intro v I' H' g k
      refine ⟨env, I', r.grow g, ?_⟩
      cases hs : fs env with
      | no => rw [hs] at q2; exact q2.elim
      | er c p => rw [hs] at q2; exact fun cls od I2 H2 g2 k2 => q2 cls od I2 H2 (g.trans g2) k2
      | ok ds => rw [hs] at q2; exact fun vs I2 H2 g2 k2 => q2 (v :: vs) I2 H2 (g.trans g2) (.st (k.mono g2.i) k2)⟩
theorem val_ln (h : VL X W A H0 e f) (hr : VAL X W A H0 es fs) (hs : starEach (e :: es) X.env = (false, eval e X.env) :: starEach es X.env := by rfl) : VAL X W A H0 (e :: es) (aCons (fLs f) fs) :=
  pa_imp (pa_cons h hr hs) fun σ H Q ⟨env, I, r, q⟩ => ⟨env, I, r, by
    have q' : PostAL X.K W σ I H (((f env).bind lsD).bind fun x => (fs env).bind fun y => .ok (x :: y)) Q := q
    cases hf : f env with
    | er c p => rw [hf] at q'; exact q'
    | no => rw [hf] at q'; exact q'.elim
    | ok d =>
      rw [hf] at q'
      rcases D.lst_or d with ⟨l, rfl⟩ | hd
      · have q2 : PostAL X.K W σ I H ((fs env).bind fun y => .ok (.lst l :: y)) Q := q'
        intro a xs I' H' g h1 h2
        refine ⟨env, I', r.grow g, ?_⟩
        cases hs : fs env with
        | no => rw [hs] at q2; exact q2.elim
        | er c p => rw [hs] at q2; exact fun cls od I2 H2 g2 k2 => q2 cls od I2 H2 (g.trans g2) k2
        | ok ds => rw [hs] at q2; exact fun vs I2 H2 g2 k2 => q2 (.ref a :: vs) I2 H2 (g.trans g2) (.ln (g2.h _ _ h1) (h2.mono g2.i) k2)
      · cases d <;> first | exact absurd rfl (hd _) | exact q'.elim⟩
end
/-! ### calls that keep a promise -/
section
variable {X : Cx} {W : WX} {A H0 : Hp} {e : Expr} {es : List Expr} {fs : FA} {pos : Pos}
/-- what stands at x keeps sp -/
def Keeps (X : Cx) (W : WX) (x : Str) (sp : Sp) : Prop := ∀ (e : Expr) (es : List Expr) (t : TA) (p pos : Pos), PA X (e :: es) t → starEach (e :: es) X.env = (false, eval e X.env) :: starEach es X.env → (backTo pos (starEach es X.env)).any (·.1) = false →
  PE X (.Call (.Name x p) (e :: es) [] pos) (tCallS sp (WE W) t)
variable {x : Str} {p : Pos} {fl : List Bool} {m : List D → R D}
theorem Cal.keeps {j k : Nat} (C : Cal X.prog X.w X.K X.mg X.base x k fl m) (hr : Room j X.A) (tk : Takes X W) (hk : k ≤ j) (hg : Gl X x) (hdb : (x == ("__debug__" : Str)) = false) : Keeps X W x (spF X.K fl m) := fun e es t p pos ha he hpl => by
  obtain ⟨f, fd, ps, F0, h1, h2, h3⟩ := C.ex
  exact pe_callS F0 (hr.mono hk) hg h1 h2 h3 (fun σ => passAt tk σ) ha hdb he hpl
theorem CalN.keeps {j k : Nat} (C : CalN X.prog X.w X.K X.mg X.base x k fl m) (hr : Room j X.A) (tk : Takes X W) (hk : k ≤ j) (hg : Gl X x) (hdb : (x == ("__debug__" : Str)) = false) : Keeps X W x (spN X.K fl m) := fun e es t p pos ha he hpl => by
  obtain ⟨f, fd, ps, F0, h1, h2, h3⟩ := C.ex
  exact pe_callS F0 (hr.mono hk) hg h1 h2 h3 (fun σ => passAt tk σ) ha hdb he hpl
/-- own lists lent; what comes back holds no list -/
theorem ve_lendK (C : Keeps X W x (spF X.K fl m)) (hfl : fl = List.replicate fl.length true) (hm : ∀ ds d, m ds = .ok d → ds.length = fl.length) (hme : ∀ ds c p, m ds = .er c p → ds.length = fl.length) (ha : VAL X W A H0 (e :: es) fs) (he : starEach (e :: es) X.env = (false, eval e X.env) :: starEach es X.env) (hpl : (backTo pos (starEach es X.env)).any (·.1) = false) :
    VE X W A H0 (.Call (.Name x p) (e :: es) [] pos) (f1 lfD (fA m fs)) := pe_imp (C e es _ p pos ha he hpl) fun σ H Q ⟨env, I, rl, q⟩ => ⟨env, I, rl, by
  have q1 : PostE X.K W σ I H (((fs env).bind m).bind lfD) Q := q
  cases hs : fs env with
  | er c p => rw [hs] at q1; exact q1
  | no => rw [hs] at q1; exact q1.elim
  | ok ds =>
    rw [hs] at q1
    have q2 : PostE X.K W σ I H ((m ds).bind lfD) Q := q1
    intro vs I1 H1 g1 k1
    have a1 := k1.ok g1.ih
    cases hmd : m ds with
    | no => rw [hmd] at q2; exact q2.elim
    | er c p =>
      rw [hmd] at q2
      refine ⟨ds, lend I1 H1, lend_h g1.ih, by rw [hfl, ← hme ds c p hmd]; exact a1, ?_⟩
      rw [hmd]
      exact fun cls od I2 H2 g2 k2 => q2 cls od _ H2 (g1.trans (back_grow g1.ih g2)) (k2.back lend_i g2.i (fun _ _ z => lend_new z))
    | ok d =>
      rw [hmd] at q2
      refine ⟨ds, lend I1 H1, lend_h g1.ih, by rw [hfl, ← hm ds d hmd]; exact a1, ?_⟩
      rw [hmd]
      have q3 : PostE X.K W σ I H (if lf d then R.ok d else R.no) Q := q2
      by_cases hl : lf d = true
      · rw [if_pos hl] at q3
        exact fun v I2 H2 g2 k2 => q3 v _ H2 (g1.trans (back_grow g1.ih g2)) (k2.back lend_i g2.i (fun _ _ z => lend_new z) hl)
      · rw [if_neg hl] at q3
        exact q3.elim⟩
theorem vf_lendK (C : Keeps X W x (spN X.K fl m)) (hfl : fl = List.replicate fl.length true) (hm : ∀ ds d, m ds = .ok d → ds.length = fl.length) (hme : ∀ ds c p, m ds = .er c p → ds.length = fl.length) (ha : VAL X W A H0 (e :: es) fs) (he : starEach (e :: es) X.env = (false, eval e X.env) :: starEach es X.env) (hpl : (backTo pos (starEach es X.env)).any (·.1) = false) :
    VF X W A H0 (.Call (.Name x p) (e :: es) [] pos) (f1 lfL (fA m fs)) := pe_imp (C e es _ p pos ha he hpl) fun σ H Q ⟨env, I, rl, q⟩ => ⟨env, I, rl, by
  have q1 : PostF X.K W σ I H (((fs env).bind m).bind lfL) Q := q
  cases hs : fs env with
  | er c p => rw [hs] at q1; exact q1
  | no => rw [hs] at q1; exact q1.elim
  | ok ds =>
    rw [hs] at q1
    have q2 : PostF X.K W σ I H ((m ds).bind lfL) Q := q1
    intro vs I1 H1 g1 k1
    have a1 := k1.ok g1.ih
    cases hmd : m ds with
    | no => rw [hmd] at q2; exact q2.elim
    | er c p =>
      rw [hmd] at q2
      refine ⟨ds, lend I1 H1, lend_h g1.ih, by rw [hfl, ← hme ds c p hmd]; exact a1, ?_⟩
      rw [hmd]
      exact fun cls od I2 H2 g2 k2 => q2 cls od _ H2 (g1.trans (back_grow g1.ih g2)) (k2.back lend_i g2.i (fun _ _ z => lend_new z))
    | ok d =>
      rw [hmd] at q2
      refine ⟨ds, lend I1 H1, lend_h g1.ih, by rw [hfl, ← hm ds d hmd]; exact a1, ?_⟩
      rw [hmd]
      rcases D.lst_or d with ⟨l, rfl⟩ | hd
      · have q3 : PostF X.K W σ I H (if lfA l then R.ok (.lst l) else R.no) Q := q2
        by_cases hl : lfA l = true
        · rw [if_pos hl] at q3
          exact fun a vs I2 H2 g2 h0 h1 h2 h3 => q3 a vs _ H2 (g1.trans (back_grow g1.ih g2)) (Evl.fresh_back g1.h h0) (back_none g1.ih h0 h1) h2 (h3.back lend_i g2.i (fun _ _ z => lend_new z) hl)
        · rw [if_neg hl] at q3
          exact q3.elim
      · cases d <;> first | exact absurd rfl (hd _) | exact q2.elim⟩
end
theorem defD_len {n : Nat} {fl : List Bool} {g : G} : (∀ ds d, defD n fl g ds = .ok d → ds.length = fl.length) ∧ ∀ ds c p, defD n fl g ds = .er c p → ds.length = fl.length := by
  constructor
  all_goals
    intro ds
    intros
    rename_i h
    unfold defD at h
    split at h
    · assumption
    · cases h
theorem defN_len {n : Nat} {fl : List Bool} {g : G} : (∀ ds d, defN n fl g ds = .ok d → ds.length = fl.length) ∧ ∀ ds c p, defN n fl g ds = .er c p → ds.length = fl.length := by
  constructor
  all_goals
    intro ds
    intros
    rename_i h
    unfold defN at h
    split at h
    · assumption
    · cases h
section
variable {X : Cx} {W : WX} {A H0 : Hp} {e : Expr} {es : List Expr} {fs : FA} {p pos : Pos} {x : Str} {j k n : Nat} {fl : List Bool} {m : List D → R D}
theorem ve_calL (C : Cal X.prog X.w X.K X.mg X.base x k fl m) (hm : (∀ ds d, m ds = .ok d → ds.length = fl.length) ∧ ∀ ds c p, m ds = .er c p → ds.length = fl.length) (hr : Room j X.A) (tk : Takes X W) (ha : VAL X W A H0 (e :: es) fs) (hfl : fl = List.replicate fl.length true := by rfl) (hk : k ≤ j := by decide) (hg : Gl X x := by rfl) (hdb : (x == ("__debug__" : Str)) = false := by decide) (he : starEach (e :: es) X.env = (false, eval e X.env) :: starEach es X.env := by rfl) (hpl : (backTo pos (starEach es X.env)).any (·.1) = false := by rfl) :
    VE X W A H0 (.Call (.Name x p) (e :: es) [] pos) (f1 lfD (fA m fs)) := ve_lendK (C.keeps hr tk hk hg hdb) hfl hm.1 hm.2 ha he hpl
theorem vf_calL (C : CalN X.prog X.w X.K X.mg X.base x k fl m) (hm : (∀ ds d, m ds = .ok d → ds.length = fl.length) ∧ ∀ ds c p, m ds = .er c p → ds.length = fl.length) (hr : Room j X.A) (tk : Takes X W) (ha : VAL X W A H0 (e :: es) fs) (hfl : fl = List.replicate fl.length true := by rfl) (hk : k ≤ j := by decide) (hg : Gl X x := by rfl) (hdb : (x == ("__debug__" : Str)) = false := by decide) (he : starEach (e :: es) X.env = (false, eval e X.env) :: starEach es X.env := by rfl) (hpl : (backTo pos (starEach es X.env)).any (·.1) = false := by rfl) :
    VF X W A H0 (.Call (.Name x p) (e :: es) [] pos) (f1 lfL (fA m fs)) := vf_lendK (C.keeps hr tk hk hg hdb) hfl hm.1 hm.2 ha he hpl
end
end BW
/-! BCore16: the class Web. -/
namespace BW
open PySem PySem.Spec PyProof.Rows L2
open Evl (Ex Ex.refl Ex.trans Ex.new ex_rd ex_l ex_t)
/-! ### what making a Web tells -/
def pairD : D → Option (Int × Int)
  | .tup [.int a, .int b] => some (a, b)
  | _ => none
def pairsD : List D → Option (List (Int × Int))
  | [] => some []
  | d :: r => match pairD d, pairsD r with
    | some p, some ps => some (p :: ps)
    | _, _ => none
def tiesD : D → Option (List (Int × Int))
  | .lst l => pairsD l
  | .tup l => pairsD l
  | _ => none
def encP (p : Int × Int) : D := .tup [.int p.1, .int p.2]
/-- a web as it is told -/
def webO (many : Int) (ts : List (Int × Int)) : D := .obj 0 [.int many, .tup (ts.map encP)]
def badMany (many : Int) (ts : List (Int × Int)) : Bool := decide (many < 1) || (decide (20 < many) || decide (40 < (ts.length : Int)))
def badEnd (many : Int) (e : Int) : Bool := decide (e < 0) || decide (many ≤ e)
def badTie (many : Int) (t : Int × Int) : Bool := badEnd many t.1 || badEnd many t.2
def webD : List D → R D
  | [.int many, d] => match tiesD d with
    | some ts => if badMany many ts then .er 4 [] else if ts.any (badTie many) then .er 3 [] else .ok (webO many ts)
    | none => .no
  | _ => .no
theorem pairD_inv {d : D} {p : Int × Int} (h : pairD d = some p) : d = encP p := by
  unfold pairD at h
  split at h
  · cases h; rfl
  · cases h
theorem pairsD_inv : ∀ {l : List D} {ps : List (Int × Int)}, pairsD l = some ps → l = ps.map encP
  | [], ps, h => by cases h; rfl
  | d :: r, ps, h => by
    unfold pairsD at h
    split at h
    · rename_i p qs h1 h2
      cases h
      rw [pairD_inv h1, pairsD_inv h2]
      rfl
    · cases h
theorem pairsD_map : ∀ ps : List (Int × Int), pairsD (ps.map encP) = some ps
  | [] => rfl
  | p :: ps => by
    show (match pairD (encP p), pairsD (ps.map encP) with | some p, some ps => some (p :: ps) | _, _ => none) = _
    rw [pairsD_map ps]
    rfl
theorem tiesD_inv {d : D} {ps : List (Int × Int)} (h : tiesD d = some ps) : (d = .lst (ps.map encP) ∨ d = .tup (ps.map encP)) := by
  unfold tiesD at h
  split at h
  · exact .inl (congrArg D.lst (pairsD_inv h))
  · exact .inr (congrArg D.tup (pairsD_inv h))
  · cases h
/-! ### the def's two first statements, and what it stores -/
def webG1 : G := gIf (fOr (f2 ltD (fI 1) (fC (.int 1))) (fOr (f2 gtD (fI 1) (fC (.int 20))) (f2 gtD (fA lenD (aCons (fI 2) aNil)) (fC (.int 40))))) (gRaise 4) gNext
def webB1 : G := gIf (fOr (f2 ltD (fI 4) (fC (.int 0))) (f2 geD (fI 4) (fI 1))) (gRaise 3) gNext
def webB2 : G := gFor (f1 seqD (fI 3)) (tN 4) webB1
def webG2 : G := gFor (f1 seqD (fI 2)) (tN 3) webB2
def webY : F := fA tupD (aCons (f2 ixD (fI 3) (fC (.int 0))) (aCons (f2 ixD (fI 3) (fC (.int 1))) aNil))
def webT : F := f1 tplD (fLc (f1 seqD (fI 2)) (tN 3) (fC (.bl true)) webY [3])
section
variable {s d : D} {many : Int} {ts : List (Int × Int)}
theorem tiesD_seq (h : tiesD d = some ts) : seqD d = .ok (.lst (ts.map encP)) := by
  rcases tiesD_inv h with rfl | rfl <;> rfl
theorem tiesD_len (h : tiesD d = some ts) : lenD [d] = .ok (.int (ts.length : Nat)) := by
  rcases tiesD_inv h with rfl | rfl <;> simp
theorem webG1_t (h : tiesD d = some ts) (x3 x4 : Sl) : webG1 [.im s, .im (.int many), .im d, x3, x4] = cond (badMany many ts) (.er [.im s, .im (.int many), .im d, x3, x4] 4 []) (.nx [.im s, .im (.int many), .im d, x3, x4]) := by
  unfold webG1 badMany
  simp only [s_gIf, s_fOr, s_f2, s_fA, s_aCons, s_aNil, s_fC, s_fI0, s_fIs, b2_ok, cn_ok, s_lt, s_gt, r_bind_ok, tiesD_len h, orr_ok, s_blR, cond_bl, scnd_ok, s_gRaise, s_gNext]
  cases decide (many < 1) <;> cases decide (20 < many) <;> rfl
theorem webB1_t (x2 x3 : Sl) (e : Int) : webB1 [.im s, .im (.int many), x2, x3, .im (.int e)] = cond (badEnd many e) (.er [.im s, .im (.int many), x2, x3, .im (.int e)] 3 []) (.nx [.im s, .im (.int many), x2, x3, .im (.int e)]) := by
  unfold webB1 badEnd
  simp only [s_gIf, s_fOr, s_f2, s_fC, s_fI0, s_fIs, b2_ok, s_lt, s_ge, r_bind_ok, orr_ok, s_blR, cond_bl, scnd_ok, s_gRaise, s_gNext]
  cases decide (e < 0) <;> rfl
theorem webB2_t (x2 x4 : Sl) (t : Int × Int) : (badTie many t = true ∧ ∃ e, webB2 [.im s, .im (.int many), x2, .im (encP t), x4] = .er e 3 []) ∨ (badTie many t = false ∧ ∃ y4, webB2 [.im s, .im (.int many), x2, .im (encP t), x4] = .nx [.im s, .im (.int many), x2, .im (encP t), y4]) := by
  obtain ⟨a, b⟩ := t
  have e : webB2 [.im s, .im (.int many), x2, .im (encP (a, b)), x4] = match webB1 [.im s, .im (.int many), x2, .im (encP (a, b)), .im (.int a)] with
      | .nx e => forF (tN 4) webB1 [.int b] e | .ct e => forF (tN 4) webB1 [.int b] e | .bk e => .nx e | r => r := rfl
  rw [e, webB1_t]
  unfold badTie
  cases h1 : badEnd many a with
  | true => exact .inl ⟨rfl, _, rfl⟩
  | false =>
    have e2 : forF (tN 4) webB1 [.int b] [.im s, .im (.int many), x2, .im (encP (a, b)), .im (.int a)] = match webB1 [.im s, .im (.int many), x2, .im (encP (a, b)), .im (.int b)] with
      | .nx e => .nx e | .ct e => .nx e | .bk e => .nx e | r => r := rfl
    show (_ ∧ ∃ e, forF (tN 4) webB1 [.int b] [.im s, .im (.int many), x2, .im (encP (a, b)), .im (.int a)] = _) ∨ (_ ∧ ∃ y4, forF (tN 4) webB1 [.int b] [.im s, .im (.int many), x2, .im (encP (a, b)), .im (.int a)] = _)
    rw [e2, webB1_t]
    cases h2 : badEnd many b with
    | true => exact .inl ⟨rfl, _, rfl⟩
    | false => exact .inr ⟨rfl, _, rfl⟩
theorem webG2_t (h : tiesD d = some ts) (x3 x4 : Sl) : (ts.any (badTie many) = true ∧ ∃ e, webG2 [.im s, .im (.int many), .im d, x3, x4] = .er e 3 []) ∨ (ts.any (badTie many) = false ∧ ∃ y3 y4, webG2 [.im s, .im (.int many), .im d, x3, x4] = .nx [.im s, .im (.int many), .im d, y3, y4]) := by
  have e : webG2 [.im s, .im (.int many), .im d, x3, x4] = forF (tN 3) webB2 (ts.map encP) [.im s, .im (.int many), .im d, x3, x4] := by
    unfold webG2
    simp only [s_gFor, s_f1, s_fI0, s_fIs, r_bind_ok, tiesD_seq h, fo_ok]
  rw [e]
  clear e h
  induction ts generalizing x3 x4 with
  | nil => exact .inr ⟨rfl, _, _, rfl⟩
  | cons t r ih =>
    have e : forF (tN 3) webB2 ((t :: r).map encP) [.im s, .im (.int many), .im d, x3, x4] = match webB2 [.im s, .im (.int many), .im d, .im (encP t), x4] with
      | .nx e => forF (tN 3) webB2 (r.map encP) e | .ct e => forF (tN 3) webB2 (r.map encP) e | .bk e => .nx e | r => r := rfl
    rw [e, List.any_cons]
    rcases webB2_t (s := s) (many := many) (.im d) x4 t with ⟨h1, e1, h2⟩ | ⟨h1, y4, h2⟩
    · rw [h2, h1]; exact .inl ⟨rfl, _, rfl⟩
    · rw [h2, h1, Bool.false_or]
      exact ih _ _
theorem webT_t (h : tiesD d = some ts) (hz : ts.length ≤ 16777216) (x3 x4 : Sl) : webT [.im s, .im (.int many), .im d, x3, x4] = .ok (.tup (ts.map encP)) := by
  unfold webT
  have k : fLc (f1 seqD (fI 2)) (tN 3) (fC (.bl true)) webY [3] [.im s, .im (.int many), .im d, x3, x4] = .ok (.lst (ts.map encP)) := by
    refine fLc_e (ds := ts.map encP) (by simp [tiesD_seq h]) (by rw [List.length_map]; exact hz) ?_
    exact lcF_map ts encP encP fun t ht => ⟨_, rfl, rfl⟩
  rw [s_f1, k]
  rfl
end
end BW
/-! BCore17: a Web is made. -/
namespace BW
open PySem PySem.Spec PyProof.Rows L2
open Evl (Ex Ex.refl Ex.trans Ex.new ex_rd ex_l ex_t)
/-- what __init__ is promised and promises: x the new instance -/
def spI (K : PySem.W.Frag) : Sp := fun vs H Q E => ∃ (x dx : Addr) (v1 v2 : V) (d1 d2 : D) (H1 I : Hp), vs = [.ref x, v1, v2] ∧ H1 x = none ∧ H1 dx = none ∧ dx ≠ x ∧ H = upd (upd H1 dx (.own x)) x (.ins (CL K 0) dx []) ∧ Ex I H1 ∧ ArgsOk K I H1 [true, true] [v1, v2] [d1, d2] ∧
  match webD [d1, d2] with
  | .ok d => ∀ I' H', Grow I H1 I' H' → Rd K I' (.ref x) d → Q .non H'
  | .er c p => ∀ cls od I' H', Grow I H1 I' H' → ErrIs K c p cls od I' → E cls od H'
  | .no => False
abbrev nWeb : List Str := ["self", "many", "ties", "ends", "place"]
section
variable {P : Program} {w : World} {K : PySem.W.Frag} {mg : Str → Option Value} {base : Heap}
theorem relW {I H1 : Hp} {x dx : Addr} {v1 v2 : V} {d1 d2 : D} (ie : Ex I (upd (upd H1 dx (.own x)) x (.ins (CL K 0) dx []))) (h1 : Rd K I v1 d1) (h2 : Rd K I v2 d2) :
    Rel K I (upd (upd H1 dx (.own x)) x (.ins (CL K 0) dx [])) [.im (.adr x), .im d1, .im d2, .no, .no] (L2.start nWeb [.ref x, v1, v2]) I (upd (upd H1 dx (.own x)) x (.ins (CL K 0) dx [])) := by
  have a : ArgsOk K I (upd (upd H1 dx (.own x)) x (.ins (CL K 0) dx [])) [true, true, true] [.ref x, v1, v2] [.adr x, d1, d2] := .st .adr (.st h1 (.st h2 .nil))
  exact rel0 (N := nWeb) ie a (by decide)
/-- a new base at a state between two stores -/
theorem Rel.rebase {A H0 I H : Hp} {σ : L2.St} {H' : Hp} {d0 d1 d2 : D} {x3 x4 : Sl} (r : Rel K A H0 [.im d0, .im d1, .im d2, x3, x4] σ I H) (e : Ex I H') : Rel K I H' [.im d0, .im d1, .im d2, .no, .no] σ I H' := by
  have im : ∀ (i : Nat) (d : D), ([.im d0, .im d1, .im d2, .no, .no] : En)[i]? = some (Sl.im d) → ∃ v, σ[i]? = some (some v) ∧ Rd K I v d := fun i d h => by
    match i, h with
    | 0, h => exact r.im 0 d h
    | 1, h => exact r.im 1 d h
    | 2, h => exact r.im 2 d h
    | 3, h => cases h
    | 4, h => cases h
    | n + 5, h => cases h
  have nm : ∀ (i : Nat) (l : List D), ([.im d0, .im d1, .im d2, .no, .no] : En)[i]? ≠ some (Sl.mu l) := fun i l h => by
    match i, h with
    | 0, h => cases h
    | 1, h => cases h
    | 2, h => cases h
    | 3, h => cases h
    | 4, h => cases h
    | n + 5, h => cases h
  have nb : ∀ (i : Nat) (d : D), ([.im d0, .im d1, .im d2, .no, .no] : En)[i]? ≠ some (Sl.bo d) := fun i l h => by
    match i, h with
    | 0, h => cases h
    | 1, h => cases h
    | 2, h => cases h
    | 3, h => cases h
    | 4, h => cases h
    | n + 5, h => cases h
  have no : ∀ (i : Nat) (d : Ow), ([.im d0, .im d1, .im d2, .no, .no] : En)[i]? ≠ some (Sl.ow d) := fun i d h => by
    match i, h with
    | 0, h => cases h
    | 1, h => cases h
    | 2, h => cases h
    | 3, h => cases h
    | 4, h => cases h
    | n + 5, h => cases h
  have nd : ∀ (i : Nat) (ks : List Int) (l : List D), ([.im d0, .im d1, .im d2, .no, .no] : En)[i]? ≠ some (Sl.md ks l) := fun i ks l h => by
    match i, h with
    | 0, h => cases h
    | 1, h => cases h
    | 2, h => cases h
    | 3, h => cases h
    | 4, h => cases h
    | n + 5, h => cases h
  exact ⟨Grow.refl e, r.len, im, fun i l h => absurd h (nm i l), fun i d h => absurd h (nb i d), fun i j l m a h => absurd h (nm i l), fun i ks l h => absurd h (nd i ks l), fun i j ks ls l m a h => absurd h (nd i ks l), fun i d h => absurd h (no i d)⟩
theorem ps_ex {X : Cx} {st : Stmt} {α : Type} {t : α → TS} (h : ∀ a, PS X st (t a)) : PS X st (fun D σ H => ∃ a, t a D σ H) := ⟨fun pins s σ H D I ⟨a, q⟩ => (h a).run pins s σ H D I q⟩
theorem web_init {qual : Str} {st s1 s2 s3 s4 : Stmt} {f : Addr} {fd : FuncData} {k : Nat} (F0 : Fn K "__init__" qual st f fd) (S : FnScope nWeb ["self", "many", "ties"] (defScope st)) (hb : defBody st = [s1, s2, s3, s4]) (cl : Cls K (CL K 0)) (n1 : NoAttr K (CL K 0) "many") (n2 : NoAttr K (CL K 0) "ties")
    (body : ∀ (cdv : Value) (A : Around) (outer : List PySem.Env) (s : Shared) (H : Hp) (E : XK), Room k (A.deeper (envOfC qual (defScope st) s.heap.objs.size f cdv)) → Takes (Cb P w K mg base nWeb qual st f cdv A outer s H E) (WB E) →
      PassesOwn (model P w) (A.deeper (envOfC qual (defScope st) s.heap.objs.size f cdv)) (envOfC qual (defScope st) s.heap.objs.size f cdv) (Cb P w K mg base nWeb qual st f cdv A outer s H E).xe →
      (∀ A0 H0, VS (Cb P w K mg base nWeb qual st f cdv A outer s H E) (WB E) A0 H0 false s1 webG1) ∧ (∀ A0 H0, VS (Cb P w K mg base nWeb qual st f cdv A outer s H E) (WB E) A0 H0 false s2 webG2) ∧
      (∀ A0 H0, PS (Cb P w K mg base nWeb qual st f cdv A outer s H E) s3 (sFld K (rdE K (WB E) A0 H0 (fI 0)) (rdE K (WB E) A0 H0 (fI 1)) "many")) ∧
      (∀ A0 H0, PS (Cb P w K mg base nWeb qual st f cdv A outer s H E) s4 (sFld K (rdE K (WB E) A0 H0 (fI 0)) (rdE K (WB E) A0 H0 webT) "ties"))) :
    FnOk P w K mg base (L2.CX P w) (k + 1) f fd ["self", "many", "ties"] (spI K) := by
  refine F0.ok S (fun vs H Q E ⟨x, dx, v1, v2, d1, d2, H1, I, e, _⟩ => by rw [e]; rfl) fun cdv A outer s H vs Q E hr h => ?_
  obtain ⟨x, dx, v1, v2, d1, d2, H1, I, rfl, hx, hdx, hne, rfl, ie, ha, q⟩ := h
  obtain ⟨b1, b2, b3, b4⟩ := body cdv A outer s _ E hr (takes_of rfl rfl rfl rfl) (passes_of rfl)
  obtain ⟨h1, h2⟩ : Rd K I v1 d1 ∧ Rd K I v2 d2 := by
    cases ha with
    | st h1 r => cases r with
      | st h2 r => exact ⟨h1, h2⟩
  -- the shapes of the arguments
  cases d1 <;> try (exact q.elim)
  rename_i many
  have q' : (match (match tiesD d2 with
    | some ts => if badMany many ts then R.er 4 [] else if ts.any (badTie many) then R.er 3 [] else R.ok (webO many ts)
    | none => R.no) with
    | .ok d => ∀ I' H', Grow I H1 I' H' → Rd K I' (.ref x) d → Q .non H'
    | .er c p => ∀ cls od I' H', Grow I H1 I' H' → ErrIs K c p cls od I' → E cls od H'
    | .no => False) := q
  cases ht : tiesD d2 with
  | none => rw [ht] at q'; exact q'.elim
  | some ts =>
    rw [ht] at q'
    -- the heap with the empty instance
    have e12 : Ex H1 (upd (upd H1 dx (.own x)) x (.ins (CL K 0) dx [])) := fun a u z => by
      have na : a ≠ x := fun e => by rw [e, hx] at z; cases z
      have nd : a ≠ dx := fun e => by rw [e, hdx] at z; cases z
      rw [upd_ne na, upd_ne nd]
      exact z
    have back1 : ∀ {I' H'}, Grow I (upd (upd H1 dx (.own x)) x (.ins (CL K 0) dx [])) I' H' → Grow I H1 I' H' := fun {I' H'} g => ⟨g.i, e12.trans g.h, g.ih, fun a o z => (g.new a o z).elim .inl fun n => .inr (Evl.fresh_back e12 n)⟩
    refine ⟨_, hb ▸ pss_cons (b1 I (upd (upd H1 dx (.own x)) x (.ins (CL K 0) dx []))) (pss_cons (b2 I (upd (upd H1 dx (.own x)) x (.ins (CL K 0) dx []))) (pss_cons (b3 I (upd (upd H1 dx (.own x)) x (.ins (CL K 0) dx []))) (pss_one (ps_ex fun A0 => ps_ex fun H0 => b4 A0 H0)))), ?_⟩
    refine ⟨_, I, relW (ie.trans e12) h1 h2, ?_⟩
    rw [webG1_t ht]
    have q2 : (match (if badMany many ts then R.er 4 [] else if ts.any (badTie many) then R.er 3 [] else R.ok (webO many ts)) with
      | .ok d => ∀ I' H', Grow I H1 I' H' → Rd K I' (.ref x) d → Q .non H'
      | .er c p => ∀ cls od I' H', Grow I H1 I' H' → ErrIs K c p cls od I' → E cls od H'
      | .no => False) := q'
    cases hm : badMany many ts with
    | true =>
      rw [hm] at q2
      exact fun σ' I' H' cls od r _ kk => q2 cls od I' H' (back1 r.g) kk
    | false =>
      rw [hm] at q2
      intro σ1 I1 Ha r1 _
      refine ⟨_, I1, r1, ?_⟩
      rcases webG2_t (s := .adr x) (many := many) ht .no .no with ⟨h3, e, h4⟩ | ⟨h3, y3, y4, h4⟩
      · rw [h4]
        rw [h3] at q2
        exact fun σ' I' H' cls od r _ kk => q2 cls od I' H' (back1 r.g) kk
      · rw [h4]
        rw [h3] at q2
        have q3 : ∀ I' H', Grow I H1 I' H' → Rd K I' (.ref x) (webO many ts) → Q .non H' := q2
        intro σ2 I2 Hb r2 _
        -- self.many = many
        refine ⟨_, I2, r2, ?_⟩
        intro u I3 H3 g3 k3
        refine ⟨_, I3, r2.grow g3, ?_⟩
        intro u2 I4 H4 g4 k4
        have r4 := (r2.grow g3).grow g4
        obtain ⟨ux, hux, hx4⟩ := r4.im 0 (.adr x) rfl
        have hx0 : u2 = .ref x := by cases k4; rfl
        have get4 : H4 x = some (.ins (CL K 0) dx []) := r4.g.h _ _ upd_same
        refine ⟨x, CL K 0, dx, [], hx0, get4, cl, n1, by decide, ?_⟩
        -- self.ties = ..
        have i4x : I4 x = none := by
          cases z : I4 x with
          | none => rfl
          | some o =>
            rcases r4.g.new x o z with z2 | z2
            · have := ie _ _ z2
              rw [hx] at this
              cases this
            · rw [upd_same] at z2; cases z2
        have e5 : Ex I4 (upd H4 x (.ins (CL K 0) dx (putF "many" u []))) := fun a o z => by
          have na : a ≠ x := fun e => by rw [e, i4x] at z; cases z
          rw [upd_ne na]
          exact r4.g.ih _ _ z
        have r5 := r4.rebase e5
        refine ⟨I4, upd H4 x (.ins (CL K 0) dx (putF "many" u [])), _, I4, r5, ?_⟩
        have hz : ts.length ≤ 16777216 := by
          have : badMany many ts = false := hm
          unfold badMany at this
          simp at this
          omega
        rw [webT_t ht hz]
        intro u6 I6 H6 g6 k6
        refine ⟨_, I6, r5.grow g6, ?_⟩
        intro u7 I7 H7 g7 k7
        have hx7 : u7 = .ref x := by cases k7; rfl
        have g67 := g6.trans g7
        have get7 : H7 x = some (.ins (CL K 0) dx (putF "many" u [])) := g67.h _ _ upd_same
        refine ⟨x, CL K 0, dx, _, hx7, get7, cl, n2, (show (1 : Nat) < 1000 by decide), ?_⟩
        have i7x : I7 x = none := by
          cases z : I7 x with
          | none => rfl
          | some o =>
            rcases g67.new x o z with z2 | z2
            · rw [i4x] at z2; cases z2
            · rw [upd_same] at z2; cases z2
        have h4g : Grow I H1 I4 H4 := back1 r4.g
        refine q3 (upd I7 x (.ins (CL K 0) dx (putF "ties" u6 (putF "many" u [])))) _ ⟨h4g.i.trans (g67.i.trans (Ex.new i7x)), fun a o z => ?_, fun a o z => ?_, fun a o z => ?_⟩ ?_
        · have na : a ≠ x := fun e => by rw [e, hx] at z; cases z
          rw [upd_ne na]
          refine g67.h _ _ ?_
          rw [upd_ne na]
          exact h4g.h _ _ z
        · by_cases na : a = x
          · subst na; rw [upd_same] at z ⊢; exact z
          · rw [upd_ne na] at z ⊢; exact g67.ih _ _ z
        · by_cases na : a = x
          · subst na; exact .inr hx
          · rw [upd_ne na] at z
            rcases g67.new a o z with z2 | z2
            · exact h4g.new a o z2
            · rw [upd_ne na] at z2
              exact .inr (Evl.fresh_back h4g.h z2)
        · have kk : RdA K (upd I7 x (.ins (CL K 0) dx (putF "ties" u6 (putF "many" u [])))) [u, u6] [.int many, .tup (ts.map encP)] := .cons (k3.mono (g4.i.trans (g67.i.trans (Ex.new i7x)))) (.cons (k6.mono (g7.i.trans (Ex.new i7x))) .nil)
          exact Rd.obj (c := 0) (vs := [u, u6]) upd_same rfl kk
end
/-! ### the call -/
section
variable {X : Cx} {CX : CXT} {k : Nat} {f C : Addr} {fd : FuncData} {ps : List Str} {sp : Sp} {E : L2.St → XK}
/-- a class called: what is let out may hang on the slots -/
theorem make_run {pins : List (Addr × Obj)} {σ : L2.St} {H : Hp} {s : Shared} {Q : VK} {us : List Value} {vs : List V} (hm : Mk X.K C f) (ok : FnOk X.prog X.w X.K X.mg X.base CX k f fd ps sp) (room : Room (k + 1) X.A) (bnd : Binds X.K fd ps []) (out : PassesAt CX X σ (E σ)) (inv : Inv X pins σ H s) (rel : Vals vs us)
    (q : ∀ x dx, H x = none → H dx = none → dx ≠ x → sp (.ref x :: vs) (upd (upd H dx (.own x)) x (.ins C dx [])) (fun v H2 => v = .non ∧ Q (.ref x) H2) (E σ)) : wpAny (model X.prog X.w) X.A (call (.ref C) us) (EP X pins σ Q) X.xe s := by
  let n := s.heap.objs.size
  have free : ∀ a, n ≤ a → H a = none := fun a ha => inv.hok.fresh ha
  have q0 := q (n + 1) n (free _ (Nat.le_succ n)) (free _ (Nat.le_refl n)) (Nat.ne_of_lt (Nat.lt_succ_self n))
  have inv2 := Inv.made (C := C) inv
  have rel2 : Vals (V.ref (n + 1) :: vs) (Value.ref (n + 1) :: us) := .cons rfl rel
  have len : (Value.ref (n + 1) :: us).length = ps.length := rel2.length.symm.trans (ok.len _ _ _ _ q0)
  have bt := bnd _ (Value.ref (n + 1) :: us) inv2.kIn (by rw [List.append_nil]; exact len)
  rw [List.append_nil] at bt
  have run := ok.run _ X.stack _ _ ⟨Value.ref (n + 1) :: us, []⟩ (Value.ref (n + 1) :: us) _ _ (E σ) (room.make C us []) (inv2.env0.make C us []) bt rel2 q0
  refine wpAny_call (make_map (f := f) inv.kIn hm.makes hm.init (beq_iff_eq.mp hm.fn) (codeAny_mono run fun r t hr => ?_))
  match r, hr with
  | .error e, hr => exact out pins _ _ e t inv2 hr
  | .ok (.ret u), hr =>
    obtain ⟨v, H', inv3, rv, ev, q3⟩ := inv2.after hr
    subst ev
    exact ⟨rv, V.ref (n + 1), H', inv3, rfl, q3⟩
end
section
variable {X : Cx} {W : WX} {k j : Nat} {f : Addr} {fd : FuncData}
/-- what a law's text must tell of the class -/
structure WebC (P : Program) (w : World) (K : PySem.W.Frag) (mg : Str → Option Value) (base : Heap) (k : Nat) : Prop where
  ex : ∃ (f : Addr) (fd : FuncData), Mk K (CL K 0) f ∧ FnOk P w K mg base (L2.CX P w) k f fd ["self", "many", "ties"] (spI K) ∧ mg "Web" = some (.ref (CL K 0)) ∧ Binds K fd ["self", "many", "ties"] []
theorem WebC.keeps (C : WebC X.prog X.w X.K X.mg X.base k) (hr : Room j X.A) (tk : Takes X W) (hk : k + 1 ≤ j) (hg : Gl X "Web") : Keeps X W "Web" (spF X.K [true, true] webD) := fun e es t p pos ha he hpl => by
  obtain ⟨f, fd, hm, ok, h1, hb⟩ := C.ex
  refine ⟨fun pins s σ H Q I h => ?_⟩
  refine wpAny_Call_Name_kw (ld_glob I hg h1 ?_ (by decide))
  refine PySem.W.callWith_K (h₀ := X.base) I.ok.mod.kin hm.kp (thn (ha.run pos pins s σ H _ I h) fun us s1 ⟨vs, H1, I1, r, q⟩ => ⟨I1.kIn, ?_⟩) he hpl
  obtain ⟨ds, I0, ie, ao, q2⟩ := q
  refine make_run (E := WE W) hm ok (hr.mono hk) hb (passAt tk σ) I1 r fun x dx hx hdx hne => ?_
  cases ao with
  | @st v1 d1 _ vs1 ds1 a1 a2 => cases a2 with
    | @st v2 d2 _ vs2 ds2 b1 b2 =>
      cases b2
      refine ⟨x, dx, v1, v2, d1, d2, H1, I0, rfl, hx, hdx, hne, rfl, ie, .st a1 (.st b1 .nil), ?_⟩
      cases hw : webD [d1, d2] with
      | no => rw [hw] at q2; exact q2.elim
      | er c p => rw [hw] at q2; exact q2
      | ok d => rw [hw] at q2; exact fun I' H' g rd => ⟨rfl, q2 _ I' H' g rd⟩
end
theorem webD_len : (∀ ds d, webD ds = .ok d → ds.length = [true, true].length) ∧ ∀ ds c p, webD ds = .er c p → ds.length = [true, true].length := by
  constructor
  all_goals
    intro ds
    intros
    rename_i h
    unfold webD at h
    split at h
    · rfl
    · cases h
section
variable {X : Cx} {W : WX} {A H0 : Hp} {e : Expr} {es : List Expr} {fs : FA} {p pos : Pos} {j k : Nat}
theorem ve_web (C : WebC X.prog X.w X.K X.mg X.base k) (hr : Room j X.A) (tk : Takes X W) (ha : VAL X W A H0 (e :: es) fs) (hk : k + 1 ≤ j := by decide) (hg : Gl X "Web" := by rfl) (he : starEach (e :: es) X.env = (false, eval e X.env) :: starEach es X.env := by rfl) (hpl : (backTo pos (starEach es X.env)).any (·.1) = false := by rfl) :
    VE X W A H0 (.Call (.Name "Web" p) (e :: es) [] pos) (f1 lfD (fA webD fs)) := ve_lendK (C.keeps hr tk hk hg) rfl webD_len.1 webD_len.2 ha he hpl
end
theorem lf_encP (l : List (Int × Int)) : lfA (l.map encP) = true := by
  induction l with
  | nil => rfl
  | cons a r ih =>
    show (lf (encP a) && lfA (r.map encP)) = true
    rw [ih]
    rfl
@[simp] theorem lfD_web (many : Int) (ts : List (Int × Int)) : lfD (webO many ts) = .ok (webO many ts) := by
  refine if_pos ?_
  show (lf (.int many) && (lfA (ts.map encP) && true)) = true
  rw [lf_encP]
  rfl
end BW
/-! BCore18: more facts of the head; isinstance of own classes. -/
namespace BW
open PySem PySem.Spec PyProof.Rows L2
open Evl (Ex Ex.refl Ex.trans Ex.new ex_rd ex_l ex_t)
/-! ### the head's facts, and Bools of one's own -/
structure SaysB (fa : List He.Fa) (fn : List He.DefD) (ex : List (PySem.W.Frag → Bool)) (K : PySem.W.Frag) : Prop where
  d : He.SaysD fa fn K
  m : (ex.all fun t => t K) = true
theorem SaysB.ex {fa : List He.Fa} {fn : List He.DefD} {ex : List (PySem.W.Frag → Bool)} {K : PySem.W.Frag} (c : SaysB fa fn ex K) (i : Nat) {t : PySem.W.Frag → Bool} (h : ex[i]? = some t := by rfl) : t K = true := List.all_eq_true.mp c.m t (List.mem_of_getElem? h)
def obsB (n : Nat) (fa : List He.Fa) (fn : List He.DefD) (ex : List (PySem.W.Frag → Bool)) (g : Addr → Option Obj) : He.AlD × Bool := (He.obsDG n fa fn g, ex.all fun t => t (He.frG g (He.asD g n)))
def hookB (n : Nat) (fa : List He.Fa) (fn : List He.DefD) (ex : List (PySem.W.Frag → Bool)) : PySem.W.Hook where
  α := He.AlD × Bool
  obs := fun s => obsB n fa fn ex s.heap.get?
  val := fun _ => (He.valD fn, true)
  says := fun _ h => ∃ K : PySem.W.Frag, K.In h ∧ SaysB fa fn ex K
  of := fun _ _ e => ⟨_, He.frG_in, congrArg (fun z : He.AlD × Bool => z.1) e, congrArg (fun z : He.AlD × Bool => z.2) e⟩
  keeps := fun _ _ _ ⟨K, hK, c⟩ k => ⟨K, PySem.W.Frag.In.keeps hK k, c⟩
theorem obsB_eq {n : Nat} {fa : List He.Fa} {fn : List He.DefD} {ex : List (PySem.W.Frag → Bool)} {g : Addr → Option Obj} {s : Shared} (h : ∀ a, g a = s.heap.get? a) : obsB n fa fn ex g = (hookB n fa fn ex).obs s := by
  have e : g = s.heap.get? := funext h
  rw [e]
  rfl
/-! ### what is asked of a class -/
def tCl (x : Str) (K : PySem.W.Frag) : Bool := He.eqO (PySem.W.findIn K (.ref (He.ga K x)) "__class__") (some (some (.builtin "object.__class__"))) && (He.eqO (PySem.W.specialIn K (.builtin "object.__class__") "__get__") (some (some (.builtin "getset_descriptor.__get__"))) &&
  (decide (PySem.W.takesIn K (.builtin "object.__class__") = some true) && decide (PySem.W.mroIn K (He.ga K x) (.type "object") = some true)))
def tEx (x : Str) (K : PySem.W.Frag) : Bool := He.eqO (PySem.W.findIn K (.ref (He.ga K x)) "__getattribute__") (some (some (.builtin "BaseException.__getattribute__"))) && (He.eqO (PySem.W.findIn K (.ref (He.ga K x)) "__getattr__") (some none) &&
  (decide (PySem.W.subIn K (.ref (He.ga K x)) (.type "BaseException") = some true) && (PySem.W.hasDictIn K (He.ga K x) && tCl x K)))
/-- is a class one of u's -/
def tKit (x : Str) (u : PySem.W.Frag → Value) (b : Bool) (K : PySem.W.Frag) : Bool := decide (PySem.W.kitOne K (.ref (He.ga K x)) (u K) = some b)
def uOwn (y : Str) : PySem.W.Frag → Value := fun K => .ref (He.ga K y)
def uTy (y : String) : PySem.W.Frag → Value := fun _ => .type y
structure ClsI (K : PySem.W.Frag) (C : Addr) : Prop where
  a : PySem.W.findIn K (.ref C) "__class__" = some (some (.builtin "object.__class__"))
  n : PySem.W.specialIn K (.builtin "object.__class__") "__get__" = some (some (.builtin "getset_descriptor.__get__"))
  t : PySem.W.takesIn K (.builtin "object.__class__") = some true
  m : PySem.W.mroIn K C (.type "object") = some true
theorem tCl_ok {x : Str} {K : PySem.W.Frag} (h : tCl x K = true) : ClsI K (He.ga K x) := by
  obtain ⟨h1, h⟩ := Bool.and_eq_true_iff.mp h
  obtain ⟨h2, h⟩ := Bool.and_eq_true_iff.mp h
  obtain ⟨h3, h4⟩ := Bool.and_eq_true_iff.mp h
  exact ⟨He.eqO_ok h1, He.eqO_ok h2, of_decide_eq_true h3, of_decide_eq_true h4⟩
theorem tEx_ok {x : Str} {K : PySem.W.Frag} (h : tEx x K = true) : ExcC K (He.ga K x) := by
  obtain ⟨h1, h⟩ := Bool.and_eq_true_iff.mp h
  obtain ⟨h2, h⟩ := Bool.and_eq_true_iff.mp h
  obtain ⟨h3, h⟩ := Bool.and_eq_true_iff.mp h
  obtain ⟨h4, h5⟩ := Bool.and_eq_true_iff.mp h
  have c := tCl_ok h5
  exact ⟨He.eqO_ok h1, He.eqO_ok h2, of_decide_eq_true h3, h4, c.a, c.n, c.t, c.m⟩
theorem tKit_ok {x : Str} {u : PySem.W.Frag → Value} {b : Bool} {K : PySem.W.Frag} (h : tKit x u b K = true) : PySem.W.kitOne K (.ref (He.ga K x)) (u K) = some b := of_decide_eq_true h
/-! ### isinstance(x, an own class) -/
/-- tb: by the class's number, the answer -/
def isoD (tb : List (Nat × Bool)) : D → R D
  | .obj c _ => if c ≤ 1 then (match tb.lookup c with
    | some b => .ok (.bl b)
    | none => .no) else .no
  | .exc c [] => if 1 < c then (match tb.lookup c with
    | some b => .ok (.bl b)
    | none => .no) else .no
  | _ => .no
/-- what such a table leans on -/
def IsoT (K : PySem.W.Frag) (u : Value) (tb : List (Nat × Bool)) : Prop := ∀ c b, tb.lookup c = some b → PySem.W.kitOne K (.ref (CL K c)) u = some b ∧ (c ≤ 1 → Cls K (CL K c) ∧ ClsI K (CL K c)) ∧ (1 < c → ExcC K (CL K c))
theorem isoT_nil {K : PySem.W.Frag} {u : Value} : IsoT K u [] := fun c b h => by cases h
theorem isoT_obj {K : PySem.W.Frag} {u : Value} {tb : List (Nat × Bool)} {c : Nat} {b : Bool} (h1 : PySem.W.kitOne K (.ref (CL K c)) u = some b) (h2 : Cls K (CL K c)) (h3 : ClsI K (CL K c)) (r : IsoT K u tb) (hc : c ≤ 1 := by decide) : IsoT K u ((c, b) :: tb) := fun c' b' h => by
  rw [List.lookup_cons] at h
  cases z : c' == c with
  | true =>
    rw [z] at h
    have e := eq_of_beq z
    subst e
    cases h
    exact ⟨h1, fun _ => ⟨h2, h3⟩, fun q => absurd q (by omega)⟩
  | false => rw [z] at h; exact r c' b' h
theorem isoT_exc {K : PySem.W.Frag} {u : Value} {tb : List (Nat × Bool)} {c : Nat} {b : Bool} (h1 : PySem.W.kitOne K (.ref (CL K c)) u = some b) (h2 : ExcC K (CL K c)) (r : IsoT K u tb) (hc : 1 < c := by decide) : IsoT K u ((c, b) :: tb) := fun c' b' h => by
  rw [List.lookup_cons] at h
  cases z : c' == c with
  | true =>
    rw [z] at h
    have e := eq_of_beq z
    subst e
    cases h
    exact ⟨h1, fun q => absurd q (by omega), fun _ => h2⟩
  | false => rw [z] at h; exact r c' b' h
/-- isinstance(e, c), e an error that the heap tells of -/
def rIsX (K : PySem.W.Frag) : List V → Hp → VK → Prop := fun xs H Q => ∃ (a C : Addr) (c : V) (u : Value) (b : Bool), xs = [.ref a, c] ∧ H a = some (excO C none a) ∧ ExcC K C ∧ ClsV c u ∧ PySem.W.kitOne K (.ref C) u = some b ∧ Q (.bl b) H
theorem call_isX {X : Cx} : CallR X (.builtin "isinstance") (rIsX X.K) := by
  intro pins s σ H xs us Q I r h
  obtain ⟨a, C, c, u, b, rfl, ha, ex, hc, hk, q⟩ := h
  match us, r with
  | [ua, uc], .cons ra (.cons rc .nil) =>
    have ea : ua = .ref a := ra
    have ec : uc = u := hc.eq rc
    subst ea ec
    have o : ObjOk X.prog X.w H s.heap a (excO C none a) := I.hok a _ ha
    obtain ⟨⟨oe, hget, hz, vs, hv⟩, _⟩ := o
    have inst : PySem.W.InstAt s.heap a oe C none := by
      obtain ⟨h1, h2⟩ := hz
      obtain ⟨oc, od, oda, osl⟩ := oe
      have h1' : oc = .ref C := h1
      have h2' : od = none := h2
      have hv' : oda = .fields vs := hv
      subst h1' h2' hv'
      exact ⟨hget, rfl, rfl, trivial⟩
    exact PySem.W.kia_one (PySem.W.handS_kitx_exc ex.hg ex.hk ex.hs ex.hd ex.ha ex.hn ex.ht ex.hm) I.kIn inst hk (by intro z; cases z) fun tk => ⟨.bl b, H, I.kept (t' := tk) fun _ _ z => z, rfl, q⟩
section
variable {X : Cx} {W : WX} {A H0 : Hp} {a : Expr} {fa : F} {pos : Pos}
theorem iso_run {K : PySem.W.Frag} {σ : L2.St} {I H : Hp} {u : Value} {tb : List (Nat × Bool)} (T : IsoT K u tb) {cv : V} (hcv : ClsV cv u) {r : R D} {Q : VK} (q0 : PostE K W σ I H (r.bind (isoD tb)) Q) :
    PostE K W σ I H r fun v H1 => (rIsi K [v, cv] H1 Q) ∨ rIsX K [v, cv] H1 Q := by
  cases r with
  | er c p => exact q0
  | no => exact q0.elim
  | ok d =>
    intro v I1 H1 g1 k
    have q1 : PostE K W σ I H (isoD tb d) Q := q0
    cases d <;> try (exact q1.elim)
    · rename_i c l
      have q2 : PostE K W σ I H (if c ≤ 1 then (match tb.lookup c with | some b => R.ok (.bl b) | none => .no) else .no) Q := q1
      by_cases hc : c ≤ 1
      · rw [if_pos hc] at q2
        cases ht : tb.lookup c with
        | none => rw [ht] at q2; exact q2.elim
        | some b =>
          rw [ht] at q2
          obtain ⟨hk, h1, _⟩ := T c b ht
          obtain ⟨p, dx, vs, rfl, hp, hl, _⟩ := k.obj_inv
          obtain ⟨cl, ci⟩ := h1 hc
          exact .inl ⟨.ref p, cv, .ref (CL K c), u, b, rfl, hcv, .base (.ins (g1.ih _ _ hp) cl ci.a ci.n ci.t ci.m), hk, q2 _ I1 H1 g1 .bl⟩
      · rw [if_neg hc] at q2; exact q2.elim
    · rename_i c l
      cases l with
      | cons _ _ => exact q1.elim
      | nil =>
        have q2 : PostE K W σ I H (if 1 < c then (match tb.lookup c with | some b => R.ok (.bl b) | none => .no) else .no) Q := q1
        by_cases hc : 1 < c
        · rw [if_pos hc] at q2
          cases ht : tb.lookup c with
          | none => rw [ht] at q2; exact q2.elim
          | some b =>
            rw [ht] at q2
            obtain ⟨hk, _, h2⟩ := T c b ht
            obtain ⟨p, rfl, hp⟩ : ∃ p, v = .ref p ∧ I1 p = some (excO (CL K c) none p) := by
              cases k with
              | exc0 h => exact ⟨_, rfl, h⟩
            exact .inr ⟨p, CL K c, cv, u, b, rfl, g1.ih _ _ hp, h2 hc, hcv, hk, q2 _ I1 H1 g1 .bl⟩
        · rw [if_neg hc] at q2; exact q2.elim
/-- isinstance(x, C), C a class of the program -/
theorem ve_iso (y : Str) {Cy : Addr} {tb : List (Nat × Bool)} {p q : Pos} (T : IsoT X.K (.ref Cy) tb) (hm : X.mg "isinstance" = none) (hy : X.mg y = some (.ref Cy)) (ha : VE X W A H0 a fa) (hg : Gl X "isinstance" := by rfl) (hg2 : Gl X y := by rfl) (hdT : (y == ("__debug__" : Str)) = false := by decide)
    (hs : starEach (a :: [.Name y q]) X.env = (false, eval a X.env) :: starEach [.Name y q] X.env := by rfl) (hs2 : starEach (.Name y q :: []) X.env = (false, eval (.Name y q) X.env) :: starEach [] X.env := by rfl) (hpl : (backTo pos (starEach [.Name y q] X.env)).any (·.1) = false := by rfl) :
    VE X W A H0 (.Call (.Name "isinstance" p) [a, .Name y q] [] pos) (f1 (isoD tb) fa) :=
  pe_imp (pe_callB (CallR.or call_isi call_isX) hg hm (by decide +kernel) (pa_cons ha (pa_cons (pe_glob (v := .ref Cy) hg2 hy rfl hdT) pa_nil hs2) hs) (by decide) (by decide) hs hpl) fun σ H Q ⟨env, I, rl, q⟩ => ⟨env, I, rl, iso_run T (.own Cy) q⟩
/-- isinstance(x, T), T a built-in class, x an object or an error of the program -/
theorem ve_isoT (y : String) {tb : List (Nat × Bool)} {p q : Pos} (T : IsoT X.K (.type y) tb) (hm : X.mg "isinstance" = none) (hy : X.mg (Str.ofString y) = none) (hb : bootBuiltins (Str.ofString y) = some (.type y)) (ha : VE X W A H0 a fa) (hnT : Str.ofString y ≠ "__name__") (hg : Gl X "isinstance" := by rfl) (hg2 : Gl X (Str.ofString y) := by rfl) (hdT : (Str.ofString y == ("__debug__" : Str)) = false := by decide)
    (hs : starEach (a :: [.Name (Str.ofString y) q]) X.env = (false, eval a X.env) :: starEach [.Name (Str.ofString y) q] X.env := by rfl) (hs2 : starEach (.Name (Str.ofString y) q :: []) X.env = (false, eval (.Name (Str.ofString y) q) X.env) :: starEach [] X.env := by rfl) (hpl : (backTo pos (starEach [.Name (Str.ofString y) q] X.env)).any (·.1) = false := by rfl) :
    VE X W A H0 (.Call (.Name "isinstance" p) [a, .Name (Str.ofString y) q] [] pos) (f1 (isoD tb) fa) :=
  pe_imp (pe_callB (CallR.or call_isi call_isX) hg hm (by decide +kernel) (pa_cons ha (pa_cons (pe_bltn (v := .ty y) hg2 hy hb rfl hnT hdT) pa_nil hs2) hs) (by decide) (by decide) hs hpl) fun σ H Q ⟨env, I, rl, q⟩ => ⟨env, I, rl, iso_run T (.ty y) q⟩
end
end BW
/-! BCore19: a class's defs. -/
namespace BW
open PySem PySem.Spec PyProof.Rows L2
/-- the i-th statement of a class -/
def clsS (st : Stmt) (i : Nat) : Stmt := (match st with
  | .ClassDef _ _ _ body _ _ _ _ _ _ _ => body
  | _ => []).getD i (.Pass ⟨0, 0, 0, 0⟩)
end BW
/-! BCore20: == of data; more rewriting. -/
namespace BW
open PySem PySem.Spec PyProof.Rows L2
mutual
/-- whole numbers and texts in lists and tuples, at most so deep -/
def pl : Nat → D → Bool
  | _, .int _ => true
  | k, .lst l => (match k with | 0 => false | k + 1 => plA k l)
  | k, .tup l => (match k with | 0 => false | k + 1 => plA k l)
  | _, .non => true
  | _, _ => false
def plA : Nat → List D → Bool
  | _, [] => true
  | k, d :: ds => pl k d && plA k ds
end
theorem plA_iff {k : Nat} {l : List D} : plA k l = true ↔ ∀ d ∈ l, pl k d = true := by
  induction l with
  | nil => simp [plA]
  | cons d r ih => simp [plA, ih]
def plP (k : Nat) (p : PyData) : Prop := PyData.canLay0 p = true ∧ p.depth ≤ k
theorem py_plA (ih : ∀ (k : Nat) (d : D), d.sc = d.sc → pl k d = true → ∃ p, py d = some p ∧ PyData.canLay0 p = true ∧ p.depth ≤ k) : True := trivial
mutual
theorem py_pl : ∀ (d : D) (k : Nat), pl k d = true → ∃ p, py d = some p ∧ PyData.canLay0 p = true ∧ p.depth ≤ k
  | .int i, k, _ => ⟨.int i, rfl, by first | rfl | simp [PyData.canLay0], by simp [PyData.depth]⟩
  | .non, k, _ => ⟨.none, rfl, by first | rfl | simp [PyData.canLay0], by simp [PyData.depth]⟩
  | .lst l, 0, h => by cases h
  | .tup l, 0, h => by cases h
  | .lst l, k + 1, h => by
    obtain ⟨ps, h1, h2, h3⟩ := py_plA' l k h
    exact ⟨.list ps, by show (pyA l).map PyData.list = _; rw [h1]; rfl, by simpa [PyData.canLay0] using h2, by simp only [PyData.depth]; omega⟩
  | .tup l, k + 1, h => by
    obtain ⟨ps, h1, h2, h3⟩ := py_plA' l k h
    exact ⟨.tuple ps, by show (pyA l).map PyData.tuple = _; rw [h1]; rfl, by simpa [PyData.canLay0] using h2, by simp only [PyData.depth]; omega⟩
  | .bl _, k, h => by cases k <;> cases h
  | .str _, k, h => by cases k <;> cases h
  | .scr _, k, h => by cases k <;> cases h
  | .obj _ _, k, h => by cases k <;> cases h
  | .exc _ _, k, h => by cases k <;> cases h
  | .dct _ _, k, h => by cases k <;> cases h
  | .dtt _ _, k, h => by cases k <;> cases h
  | .adr _, k, h => by cases k <;> cases h
theorem py_plA' : ∀ (l : List D) (k : Nat), plA k l = true → ∃ ps, pyA l = some ps ∧ PyData.canLayAll0 ps = true ∧ PyData.depthAll ps ≤ k
  | [], k, _ => ⟨[], rfl, by simp [PyData.canLayAll0], by simp [PyData.depthAll]⟩
  | d :: r, k, h => by
    obtain ⟨h1, h2⟩ := Bool.and_eq_true_iff.mp (show (pl k d && plA k r) = true from h)
    obtain ⟨p, e1, e2, e3⟩ := py_pl d k h1
    obtain ⟨ps, f1, f2, f3⟩ := py_plA' r k h2
    refine ⟨p :: ps, ?_, by simp [PyData.canLayAll0, e2, f2], by simp only [PyData.depthAll]; omega⟩
    show ((py d).bind fun x => (pyA r).map fun xs => x :: xs) = _
    rw [e1, f1]
    rfl
end
mutual
theorem eqv_pl : ∀ (a b : D) (k : Nat) (p q : PyData), pl k a = true → pl k b = true → py a = some p → py b = some q → (PyData.eqv p q = true ↔ a = b)
  | .int i, b, k, p, q, ha, hb, ea, eb => by
    cases ea
    cases b with
    | int j => cases eb; simp [PyData.eqv]
    | non => cases eb; simp [PyData.eqv]
    | lst l =>
      cases k with
      | zero => cases hb
      | succ k =>
        obtain ⟨ps, h1, _⟩ := py_plA' l k hb
        have e : (pyA l).map PyData.list = some q := eb
        rw [h1] at e; cases e; simp [PyData.eqv]
    | tup l =>
      cases k with
      | zero => cases hb
      | succ k =>
        obtain ⟨ps, h1, _⟩ := py_plA' l k hb
        have e : (pyA l).map PyData.tuple = some q := eb
        rw [h1] at e; cases e; simp [PyData.eqv]
    | _ => cases k <;> cases hb
  | .non, b, k, p, q, ha, hb, ea, eb => by
    cases ea
    cases b with
    | int j => cases eb; simp [PyData.eqv]
    | non => cases eb; simp [PyData.eqv]
    | lst l =>
      cases k with
      | zero => cases hb
      | succ k =>
        obtain ⟨ps, h1, _⟩ := py_plA' l k hb
        have e : (pyA l).map PyData.list = some q := eb
        rw [h1] at e; cases e; simp [PyData.eqv]
    | tup l =>
      cases k with
      | zero => cases hb
      | succ k =>
        obtain ⟨ps, h1, _⟩ := py_plA' l k hb
        have e : (pyA l).map PyData.tuple = some q := eb
        rw [h1] at e; cases e; simp [PyData.eqv]
    | _ => cases k <;> cases hb
  | .lst l, b, 0, p, q, ha, hb, ea, eb => by cases ha
  | .lst l, b, k + 1, p, q, ha, hb, ea, eb => by
    obtain ⟨ps, h1, _⟩ := py_plA' l k ha
    have e : (pyA l).map PyData.list = some p := ea
    rw [h1] at e; cases e
    cases b with
    | int j => cases eb; simp [PyData.eqv]
    | non => cases eb; simp [PyData.eqv]
    | lst m =>
      obtain ⟨qs, h2, _⟩ := py_plA' m k hb
      have e : (pyA m).map PyData.list = some q := eb
      rw [h2] at e; cases e
      have := eqvA_pl l m k ps qs ha hb h1 h2
      simp only [PyData.eqv, this, D.lst.injEq]
    | tup m =>
      obtain ⟨qs, h2, _⟩ := py_plA' m k hb
      have e : (pyA m).map PyData.tuple = some q := eb
      rw [h2] at e; cases e; simp [PyData.eqv]
    | _ => cases hb
  | .tup l, b, 0, p, q, ha, hb, ea, eb => by cases ha
  | .tup l, b, k + 1, p, q, ha, hb, ea, eb => by
    obtain ⟨ps, h1, _⟩ := py_plA' l k ha
    have e : (pyA l).map PyData.tuple = some p := ea
    rw [h1] at e; cases e
    cases b with
    | int j => cases eb; simp [PyData.eqv]
    | non => cases eb; simp [PyData.eqv]
    | tup m =>
      obtain ⟨qs, h2, _⟩ := py_plA' m k hb
      have e : (pyA m).map PyData.tuple = some q := eb
      rw [h2] at e; cases e
      have := eqvA_pl l m k ps qs ha hb h1 h2
      simp only [PyData.eqv, this, D.tup.injEq]
    | lst m =>
      obtain ⟨qs, h2, _⟩ := py_plA' m k hb
      have e : (pyA m).map PyData.list = some q := eb
      rw [h2] at e; cases e; simp [PyData.eqv]
    | _ => cases hb
  | .bl _, b, k, p, q, h, _, _, _ => by cases k <;> cases h
  | .str _, b, k, p, q, h, _, _, _ => by cases k <;> cases h
  | .scr _, b, k, p, q, h, _, _, _ => by cases k <;> cases h
  | .obj _ _, b, k, p, q, h, _, _, _ => by cases k <;> cases h
  | .exc _ _, b, k, p, q, h, _, _, _ => by cases k <;> cases h
  | .dct _ _, b, k, p, q, h, _, _, _ => by cases k <;> cases h
  | .dtt _ _, b, k, p, q, h, _, _, _ => by cases k <;> cases h
  | .adr _, b, k, p, q, h, _, _, _ => by cases k <;> cases h
theorem eqvA_pl : ∀ (a b : List D) (k : Nat) (p q : List PyData), plA k a = true → plA k b = true → pyA a = some p → pyA b = some q → (PyData.eqvAll p q = true ↔ a = b)
  | [], [], k, p, q, _, _, ea, eb => by cases ea; cases eb; simp [PyData.eqvAll]
  | [], d :: r, k, p, q, _, hb, ea, eb => by
    cases ea
    obtain ⟨ps, h1, _⟩ := py_plA' (d :: r) k hb
    rw [eb] at h1; cases h1
    cases q with
    | nil =>
      have e : ((py d).bind fun x => (pyA r).map fun xs => x :: xs) = some [] := eb
      cases h2 : py d with
      | none => rw [h2] at e; cases e
      | some x => rw [h2] at e; cases h3 : pyA r with
        | none => rw [h3] at e; cases e
        | some y => rw [h3] at e; cases e
    | cons => simp [PyData.eqvAll]
  | d :: r, [], k, p, q, ha, _, ea, eb => by
    cases eb
    cases p with
    | nil =>
      have e : ((py d).bind fun x => (pyA r).map fun xs => x :: xs) = some [] := ea
      cases h2 : py d with
      | none => rw [h2] at e; cases e
      | some x => rw [h2] at e; cases h3 : pyA r with
        | none => rw [h3] at e; cases e
        | some y => rw [h3] at e; cases e
    | cons => simp [PyData.eqvAll]
  | d :: r, d' :: r', k, p, q, ha, hb, ea, eb => by
    obtain ⟨h1, h2⟩ := Bool.and_eq_true_iff.mp (show (pl k d && plA k r) = true from ha)
    obtain ⟨h3, h4⟩ := Bool.and_eq_true_iff.mp (show (pl k d' && plA k r') = true from hb)
    obtain ⟨x, e1, _⟩ := py_pl d k h1
    obtain ⟨xs, e2, _⟩ := py_plA' r k h2
    obtain ⟨y, e3, _⟩ := py_pl d' k h3
    obtain ⟨ys, e4, _⟩ := py_plA' r' k h4
    have f1 : ((py d).bind fun x => (pyA r).map fun xs => x :: xs) = some p := ea
    have f2 : ((py d').bind fun x => (pyA r').map fun xs => x :: xs) = some q := eb
    rw [e1, e2] at f1
    rw [e3, e4] at f2
    cases f1; cases f2
    have k1 := eqv_pl d d' k x y h1 h3 e1 e3
    have k2 := eqvA_pl r r' k xs ys h2 h4 e2 e4
    simp only [PyData.eqvAll, Bool.and_eq_true, k1, k2, List.cons.injEq]
end
theorem eqG_pl {a b : D} (ha : pl 60 a = true) (hb : pl 60 b = true) : ∃ c, eqG a b = .ok (.bl c) ∧ (c = true ↔ a = b) := by
  obtain ⟨p, e1, e2, e3⟩ := py_pl a 60 ha
  obtain ⟨q, f1, f2, f3⟩ := py_pl b 60 hb
  refine ⟨PyData.eqv p q, ?_, eqv_pl a b 60 p q ha hb e1 f1⟩
  unfold eqG
  rw [e1, f1]
  show (if (SeqAt.shaped p && SeqAt.shaped q) = true then R.ok (D.bl (PyData.eqv p q)) else .no) = _
  rw [if_pos]
  unfold SeqAt.shaped
  rw [e2, f2, decide_eq_true (by omega), decide_eq_true (by omega)]
  rfl
theorem eqD_pl {a b : D} (ha : pl 60 a = true) (hb : pl 60 b = true) : ∃ c, eqD a b = .ok (.bl c) ∧ (c = true ↔ a = b) := by
  unfold eqD
  split
  · rename_i i j
    exact ⟨_, rfl, by simp⟩
  · exact eqG_pl ha hb
/-- == of told values of one kind -/
theorem eqD_enc {α : Type} [DecidableEq α] (enc : α → D) (inj : ∀ x y, enc x = enc y → x = y) (h : ∀ x, pl 60 (enc x) = true) (x y : α) : eqD (enc x) (enc y) = .ok (.bl (decide (x = y))) := by
  obtain ⟨c, h1, h2⟩ := eqD_pl (h x) (h y)
  rw [h1]
  congr 2
  have : c = true ↔ x = y := h2.trans ⟨inj x y, fun e => by rw [e]⟩
  cases c with
  | true => exact (decide_eq_true (this.mp rfl)).symm
  | false => exact (decide_eq_false fun e => Bool.false_ne_true (this.mpr e)).symm
theorem pl_le {k j : Nat} (hk : k ≤ j) : ∀ {d : D}, (pl k d = true → pl j d = true) := by
  suffices H : (∀ (d : D) (k j : Nat), k ≤ j → pl k d = true → pl j d = true) from fun {d} => H d k j hk
  intro d
  refine D.rec (motive_1 := fun d => ∀ (k j : Nat), k ≤ j → pl k d = true → pl j d = true) (motive_2 := fun l => ∀ (k j : Nat), k ≤ j → plA k l = true → plA j l = true) ?_ ?_ ?_ ?_ ?_ ?_ ?_ ?_ ?_ ?_ ?_ ?_ ?_ ?_ d
  · intro k j _ _; rfl
  · intro b k j _ h; cases k <;> cases h
  · intro i k j _ _; rfl
  · intro z k j _ h; cases k <;> cases h
  · intro l ih k j hk h
    match k, j, hk, h with
    | 0, _, _, h => cases h
    | k + 1, 0, hk, _ => omega
    | k + 1, j + 1, hk, h => exact ih k j (by omega) h
  · intro l ih k j hk h
    match k, j, hk, h with
    | 0, _, _, h => cases h
    | k + 1, 0, hk, _ => omega
    | k + 1, j + 1, hk, h => exact ih k j (by omega) h
  · intro l k j _ h; cases k <;> cases h
  · intro c l _ k j _ h; cases k <;> cases h
  · intro c l _ k j _ h; cases k <;> cases h
  · intro c l _ k j _ h; cases k <;> cases h
  · intro c l _ k j _ h; cases k <;> cases h
  · intro c k j _ h; cases k <;> cases h
  · intro k j _ _; rfl
  · intro d r ih1 ih2 k j hk h
    obtain ⟨h1, h2⟩ := Bool.and_eq_true_iff.mp (show (pl k d && plA k r) = true from h)
    exact Bool.and_eq_true_iff.mpr ⟨ih1 k j hk h1, ih2 k j hk h2⟩
theorem pl_map {α : Type} {enc : α → D} {k : Nat} (h : ∀ x, pl k (enc x) = true) (l : List α) : plA k (l.map enc) = true := plA_iff.mpr fun d hd => by
  obtain ⟨x, _, rfl⟩ := List.mem_map.mp hd
  exact h x
theorem map_inj {α β : Type} {f : α → β} (inj : ∀ x y, f x = f y → x = y) : ∀ {l m : List α}, l.map f = m.map f → l = m
  | [], [], _ => rfl
  | [], _ :: _, h => by cases h
  | _ :: _, [], h => by cases h
  | a :: l, b :: m, h => by
    injection h with h1 h2
    rw [inj a b h1, map_inj inj h2]
/-- lists of told values -/
theorem eqD_lst {α : Type} [DecidableEq α] (enc : α → D) (inj : ∀ x y, enc x = enc y → x = y) (h : ∀ x, pl 50 (enc x) = true) (x y : List α) : eqD (.lst (x.map enc)) (.lst (y.map enc)) = .ok (.bl (decide (x = y))) :=
  eqD_enc (fun l : List α => .lst (l.map enc)) (fun a b e => map_inj inj (D.lst.inj e)) (fun l => pl_map (k := 59) (fun x => pl_le (by decide) (h x)) l) x y
theorem eqD_tup {α : Type} [DecidableEq α] (enc : α → D) (inj : ∀ x y, enc x = enc y → x = y) (h : ∀ x, pl 50 (enc x) = true) (x y : List α) : eqD (.tup (x.map enc)) (.tup (y.map enc)) = .ok (.bl (decide (x = y))) :=
  eqD_enc (fun l : List α => .tup (l.map enc)) (fun a b e => map_inj inj (D.tup.inj e)) (fun l => pl_map (k := 59) (fun x => pl_le (by decide) (h x)) l) x y
theorem encP_inj (x y : Int × Int) (h : encP x = encP y) : x = y := by
  obtain ⟨a, b⟩ := x
  obtain ⟨c, d⟩ := y
  unfold encP at h
  simp at h
  rw [h.1, h.2]
@[simp] theorem eqD_pairs (x y : List (Int × Int)) : eqD (.lst (x.map encP)) (.lst (y.map encP)) = .ok (.bl (decide (x = y))) := eqD_lst encP encP_inj (fun _ => rfl) x y
@[simp] theorem neD_pairs (x y : List (Int × Int)) : neD (.lst (x.map encP)) (.lst (y.map encP)) = .ok (.bl (!decide (x = y))) := neD_of (eqD_pairs x y)
@[simp] theorem eqD_pairsT (x y : List (Int × Int)) : eqD (.tup (x.map encP)) (.tup (y.map encP)) = .ok (.bl (decide (x = y))) := eqD_tup encP encP_inj (fun _ => rfl) x y
@[simp] theorem neD_pairsT (x y : List (Int × Int)) : neD (.tup (x.map encP)) (.tup (y.map encP)) = .ok (.bl (!decide (x = y))) := neD_of (eqD_pairsT x y)
@[simp] theorem eqD_intsL (x y : List Int) : eqD (.lst (x.map D.int)) (.lst (y.map D.int)) = .ok (.bl (decide (x = y))) := eqD_ints x y
@[simp] theorem neD_intsL (x y : List Int) : neD (.lst (x.map D.int)) (.lst (y.map D.int)) = .ok (.bl (!decide (x = y))) := neD_of (eqD_ints x y)
/-! ### more rewriting -/
def SR.un (r : R D) (t : FT) (e : En) : SR := .of e r fun d => match t d e with
  | .ok e => .nx e
  | _ => .no
def SR.unt (r : R En) : SR := match r with
  | .ok e => .nx e
  | _ => .no
@[simp] theorem un_ok (d t e) : SR.un (.ok d) t e = SR.unt (t d e) := id rfl
@[simp] theorem un_er (c p t e) : SR.un (.er c p) t e = .er e c p := id rfl
@[simp] theorem unt_ok (e) : SR.unt (.ok e) = .nx e := id rfl
@[simp] theorem s_gUnp (t f e) : gUnp t f e = SR.un (f e) t e := id rfl
def SR.mt0T (s : Option Sl) (k : List D → Option (List D)) (i : Nat) (e : En) : SR := match s with
  | some (.mu l) => (match k l with
    | some m => .nx (e.set i (.mu m))
    | none => .no)
  | _ => .no
def SR.mt0 (m : Option (List D)) (i : Nat) (e : En) : SR := match m with
  | some m => .nx (e.set i (.mu m))
  | none => .no
@[simp] theorem mt0T_mu (l k i e) : SR.mt0T (some (.mu l)) k i e = SR.mt0 (k l) i e := id rfl
@[simp] theorem mt0_some (m i e) : SR.mt0 (some m) i e = .nx (e.set i (.mu m)) := id rfl
@[simp] theorem s_gMut0 (i k) (e : En) : gMut0 i k e = SR.mt0T e[i]? k i e := id rfl
@[simp] theorem s_kRev (l) : kRev l = some l.reverse := id rfl
@[simp] theorem s_kClear (l) : kClear l = some [] := id rfl
def SR.six (s : Option Sl) (f fi : R D) (i : Nat) (e : En) : SR := match s with
  | some (.mu l) => .of e f fun d => .of e fi fun
    | .int n => (match ixN l.length n with
      | some k => .nx (e.set i (.mu (l.set k d)))
      | none => .no)
    | _ => .no
  | _ => .no
def SR.sixk (l : List D) (d : D) (k : Option Nat) (i : Nat) (e : En) : SR := match k with
  | some k => .nx (e.set i (.mu (l.set k d)))
  | none => .no
@[simp] theorem six_mu (l d n i e) : SR.six (some (.mu l)) (.ok d) (.ok (.int n)) i e = SR.sixk l d (ixN l.length n) i e := id rfl
@[simp] theorem sixk_some (l d k i e) : SR.sixk l d (some k) i e = .nx (e.set i (.mu (l.set k d))) := id rfl
@[simp] theorem s_gSetIx (i fi f) (e : En) : gSetIx i fi f e = SR.six e[i]? (f e) (fi e) i e := by
  unfold gSetIx SR.six
  cases e[i]? with
  | none => rfl
  | some s => cases s <;> rfl
theorem ixN_ok {n : Nat} {k : Int} (h0 : 0 ≤ k) (h : k < n) : ixN n k = some k.toNat := by
  unfold ixN
  rw [if_pos h0, if_pos h]
@[simp] theorem s_isiI (T : String) (n : Int) : isiD T (.int n) = (match kitB "int" T with | some b => .ok (.bl b) | none => .no) := id rfl
@[simp] theorem at_many (m d) : atD 0 "many" (.obj 0 [m, d]) = .ok m := id rfl
@[simp] theorem at_ties (m d) : atD 0 "ties" (.obj 0 [m, d]) = .ok d := id rfl
def isiS (T : String) : D → R D := fun | .scr _ => .no | d => isiD T d
@[simp] theorem isi_int_int (n) : isiS "int" (.int n) = .ok (.bl true) := id rfl
@[simp] theorem isi_int_bool (n) : isiS "bool" (.int n) = .ok (.bl false) := id rfl
@[simp] theorem isi_int_list (n) : isiS "list" (.int n) = .ok (.bl false) := id rfl
@[simp] theorem isi_int_tuple (n) : isiS "tuple" (.int n) = .ok (.bl false) := id rfl
@[simp] theorem isi_bl_bool (n) : isiS "bool" (.bl n) = .ok (.bl true) := id rfl
@[simp] theorem isi_bl_int (n) : isiS "int" (.bl n) = .ok (.bl true) := id rfl
@[simp] theorem isi_lst_list (n) : isiS "list" (.lst n) = .ok (.bl true) := id rfl
@[simp] theorem isi_lst_tuple (n) : isiS "tuple" (.lst n) = .ok (.bl false) := id rfl
@[simp] theorem isi_lst_int (n) : isiS "int" (.lst n) = .ok (.bl false) := id rfl
@[simp] theorem isi_tup_list (n) : isiS "list" (.tup n) = .ok (.bl false) := id rfl
@[simp] theorem isi_tup_tuple (n) : isiS "tuple" (.tup n) = .ok (.bl true) := id rfl
@[simp] theorem isi_encP (t) : isiS "tuple" (encP t) = .ok (.bl true) := id rfl
@[simp] theorem isi_non_list : isiS "list" .non = .ok (.bl false) := id rfl
@[simp] theorem isi_non_tuple : isiS "tuple" .non = .ok (.bl false) := id rfl
@[simp] theorem isi_str_str (n) : isiS "str" (.str n) = .ok (.bl true) := id rfl
@[simp] theorem at_manyO (m ts) : atD 0 "many" (webO m ts) = .ok (.int m) := id rfl
@[simp] theorem at_tiesO (m ts) : atD 0 "ties" (webO m ts) = .ok (.tup (ts.map encP)) := id rfl
@[simp] theorem encP_0 (t : Int × Int) : ixD (encP t) (.int 0) = .ok (.int t.1) := id rfl
@[simp] theorem encP_1 (t : Int × Int) : ixD (encP t) (.int 1) = .ok (.int t.2) := id rfl
@[simp] theorem tT2_encP (u t e) : tT 2 u (encP t) e = u [.int t.1, .int t.2] e := id rfl
end BW
/-! BCore21: try, the error kept as a value. -/
namespace BW
open PySem PySem.Spec PyProof.Rows L2
open Evl (Ex Ex.refl Ex.trans Ex.new ex_rd ex_l ex_t)
/-- an error as it stands in the heap -/
def excV (cls : Value) (od : Option Addr) (a : Addr) : HO := .ext fun h => ∃ oe, h.get? a = some oe ∧ Zc cls od oe ∧ ∃ vs, oe.data = .fields vs
theorem excV_ref (C : Addr) (od : Option Addr) (a : Addr) : excV (.ref C) od a = excO C od a := rfl
/-- the context of a suite: an error is handled, nothing may be let out -/
abbrev Cx.inSuite (X : Cx) (a : Addr) (pn : List (Addr × Obj)) : Cx := { X with A := X.A.mark (some (.ref a)), calm := false, pn := pn, xe := fun _ _ => False }
section
variable {X : Cx} {pins : List (Addr × Obj)} {σ : L2.St} {H : Hp} {s t s' : Shared} {B : Heap}
/-- the error in the heap, told from now on -/
theorem inv_told (inv : Inv X pins σ H t) (nb : ∀ b o, t.heap.get? b = some o → b ∉ frs X.stack → B.get? b = some o) (st : B.StaysIn s'.heap) (up : t.heap.UpToSlots s'.heap) (hos : s'.os = t.os) (hag : AllBare s'.gens)
    {a : Addr} {oe : Obj} {cls : Value} {od : Option Addr} (hB : B.get? a = none) (hfr : a ∉ frs X.stack) (ha : s'.heap.get? a = some oe) (hz : Zc cls od oe) (hv : ∃ vs, oe.data = .fields vs) : Inv X pins σ (upd H a (excV cls od a)) s' := by
  have new : t.heap.get? a = none := by
    cases q : t.heap.get? a with
    | none => rfl
    | some o => rw [nb a o q hfr] at hB; cases hB
  have base := inv.landed nb st up hos hag
  have hn : H a = none := by
    cases q : H a with
    | none => rfl
    | some o =>
      exfalso
      obtain ⟨u, hu⟩ := objOk_get (inv.hok a o q)
      rw [new] at hu
      cases hu
  have ne : ∀ {b o}, H b = some o → b ≠ a := fun {b o} e z => by rw [z, hn] at e; cases e
  have frame : ∀ b ∈ frs X.stack, ∀ o, t.heap.get? b = some o → ∃ sl, s'.heap.get? b = some { o with slots := sl } := fun b hb o e => by
    obtain ⟨_, o', e', hd⟩ := inv.stack.mem hb
    rw [e] at e'
    cases e'
    exact up b o e hd
  have hok : HOk X.prog X.w (upd H a (excV cls od a)) s'.heap := fun b u e => by
    by_cases hb : b = a
    · subst hb
      rw [upd_same] at e
      cases e
      refine ⟨⟨oe, ha, hz, hv⟩, ⟨oe, ha⟩, fun h1 h2 ⟨o, e1, e2, e3⟩ k => ⟨o, k o e1, e2, e3⟩⟩
    · rw [upd_ne hb] at e
      refine (base.hok b u e).stay (fun _ _ _ q => q) (fun c q => by rw [upd_ne (ne q)]; exact q) fun c xs q => by rw [upd_ne (ne q)]; exact q
  have J := inv.call (ch := []) (h' := s'.heap) (g' := s'.gens) (t' := s'.toks) (d' := s'.drawn) (H' := upd H a (excV cls od a))
    ⟨fun b o e _ hb _ => st b o (nb b o e hb), fun b o e _ hb _ => frame b hb o e, fun b o e n _ => by
        rw [upd_ne fun z => by rw [z, new] at e; cases e]
        exact n, fun b o e _ => by
        by_cases hb : b ∈ frs X.stack
        · obtain ⟨sl, q⟩ := frame b hb o e
          exact ⟨_, q⟩
        · exact ⟨o, st b o (nb b o e hb)⟩, fun b xs e => by rw [upd_ne (ne e)]; exact e, fun b o u e => by rw [upd_ne (ne e)]; exact e, fun b ps e => ⟨#[], by rw [upd_ne (ne e), e]; simp⟩⟩
    hok hag (fun _ z => nomatch z)
  obtain ⟨b1, b2, b3, b4, b5⟩ := s'
  have : b5 = t.os := hos
  subst this
  exact J
theorem inv_suite (inv : Inv X pins σ H s) (a : Addr) : Inv (Cx.inSuite X a (X.pn ++ pins)) [] σ H s :=
  ⟨⟨inv.ok.mod, inv.ok.kind, inv.ok.glob, inv.ok.blt, inv.ok.above, inv.ok.inj, inv.ok.has, inv.ok.cab, (fun z => by cases z), inv.ok.frames, inv.ok.stk, inv.ok.exf, inv.ok.bs, inv.ok.bsz, inv.ok.noex, inv.ok.exfs, inv.ok.funs, inv.ok.frf⟩,
    inv.os, inv.bare, inv.base, inv.loc, inv.cell, inv.free, inv.freeC, (fun p hp => inv.pin p (by rwa [List.append_nil] at hp)), inv.hok, inv.len⟩
theorem inv_unsuite {a : Addr} {pn : List (Addr × Obj)} (ok : X.Ok) (inv : Inv (Cx.inSuite X a (X.pn ++ pins)) pn σ H s) : Inv X pins σ H s :=
  ⟨ok, inv.os, inv.bare, inv.base, inv.loc, inv.cell, inv.free, inv.freeC, (fun p hp => inv.pin p (List.mem_append_left _ hp)), inv.hok, inv.len⟩
end
/-- what a clause that keeps the error wishes: slot i is its name's, c the class that it names -/
def wKeep (K : PySem.W.Frag) (c : Value) (i : Nat) (ts : TS) (Wout : WX) (D : Ends) : WX := fun cls d σ H =>
  ∃ b, PySem.W.exmOne K cls c = some b ∧ (b = true → ∀ a, H a = none → ts { nx := fun σ' H' => D.nx (σ'.set i none) H', rt := D.rt, bk := fun σ' H' => D.bk (σ'.set i none) H', ct := fun σ' H' => D.ct (σ'.set i none) H' } (σ.set i (some (.ref a))) (upd H a (excV cls d a))) ∧ (b = false → Wout cls d σ H)
section
variable {X : Cx} {x n : Str} {c : Value} {i : Nat} {body suite : List Stmt} {b₀ : Stmt} {np pos pos' : Pos} {tb : WX → TS} {ts : TS} {Wout : WX}
theorem ps_tryK (stk : X.stack = X.env :: X.outer) (frm : X.env.frame = some X.env.locals) (nd : X.N.Nodup) (slot : X.N[i]? = some n) (loc : X.env.kindOf n = some .local) (nm : Names X x c) (tk : Takes X Wout)
    (hb : ∀ (W : WX) (pn : List (Addr × Obj)) (xe : Value → Shared → Prop), Takes (X.tr pn xe) W → PassesOwn (model X.prog X.w) X.A X.env xe → PSs (X.tr pn xe) body (tb W))
    (hsu : ∀ (a : Addr) (pn : List (Addr × Obj)), PSs (Cx.inSuite X a pn) (b₀ :: suite) ts) :
    PS X (.Try body [.ExceptHandler (some (.Name x np)) (some n) (b₀ :: suite) pos'] [] [] pos) (fun D σ H => tb (wKeep X.K c i ts Wout D) D σ H) := by
  refine ⟨fun pins s σ H D inv h => ?_⟩
  have ok := inv.ok
  have frames : X.A.frames = some (X.env :: X.outer) := by rw [ok.frames, stk]
  let hds : List ExceptHandler := [.ExceptHandler (some (.Name x np)) (some n) (b₀ :: suite) pos']
  let xe2 : Value → Shared → Prop := fun e s₁ => wpAny (model X.prog X.w) X.A (noteFrame e X.env) (fun _ s₂ => wpAny (model X.prog X.w) X.A (setFlight e none) (fun _ s₃ => wpAny (model X.prog X.w) X.A (handleBy e X.env hds) (SP X pins D) X.xe s₃) X.xe s₂) X.xe s₁
  have takes : Takes (X.tr (X.pn ++ pins) xe2) (wKeep X.K c i ts Wout D) := by
    intro u s' xx
    obtain ⟨a, B, sI, pins', σ', H', cls, d, rfl, J', nb, up, sky, na, os, ag, b, hb1, hyes, hno⟩ := xx
    have J : Inv X pins σ' H' sI := J'.ofTry ok
    rw [show (X.tr (X.pn ++ pins) xe2).stack = X.env :: X.outer from stk] at sky
    show wpAny (model X.prog X.w) X.A (noteFrame (.ref a) X.env) _ _ _
    refine Sky.land Zc.steady frames frm sky fun h3 fly up3 => ?_
    have upA := up.trans up3
    obtain ⟨k1, k2, k3, oe, vs, T, oT, tt, he, hz, hd, h1, hrest⟩ := id fly
    have J3 : Inv X pins σ' H' { s' with heap := h3 } := J.landed nb k1 upA os ag
    have nfr : ∀ {h : Heap} {o : Obj} {vs : Array Value}, h.FunFrames B (X.env :: X.outer) → h.get? a = some o → o.data = .fields vs → a ∉ frs (X.env :: X.outer) := fun {h o vs} ff e dd hm => by
      obtain ⟨_, o', e', hnf⟩ := ff.mem hm
      rw [e] at e'
      cases e'
      exact hnf _ dd
    refine wpAny_handleBy_cons (codeAny_handlers_test ?_) (by intro q; cases q)
    have ty : PySem.W.Looks (model X.prog X.w) h3 (typeOf (.ref a)) cls := fun A Q E s k q => wpAny_typeOf_ref (k _ _ he) (by rw [hz.1]; exact q)
    have match_ := PySem.W.exm_one (M := model X.prog X.w) (J3.kIn) ty hb1
    have S3 := inv_suite J3 a
    have test : ∀ {Q : Value → Shared → Prop} {E : Value → Shared → Prop}, Q c { s' with heap := h3 } → wpAny (model X.prog X.w) (X.A.mark (some (.ref a))) (eval (.Name x np) X.env) Q E { s' with heap := h3 } := fun {Q E} q => by
      obtain ⟨hg, hdbg, hm | ⟨hm, hv, hnn⟩⟩ := nm
      · exact ld_glob (X := Cx.inSuite X a (X.pn ++ pins)) S3 hg hm q hdbg
      · exact ld_blt (X := Cx.inSuite X a (X.pn ++ pins)) S3 hg hm hv q hnn hdbg
    refine test (match_.here ?_)
    cases b with
    | false =>
      show wpAny _ X.A (handleBy (.ref a) X.env []) _ _ _
      refine wpAny_handleBy_nil ?_
      unfold PySem.passOn
      refine wpAny_bind (wpAny_field he hd h1 ?_)
      rw [if_neg (show ¬ ((Value.ref T == Value.none) = true) from by simp)]
      have last : wpAny (model X.prog X.w) X.A (setFlight (.ref a) X.env.frame) (fun _ s4 => wpAny (model X.prog X.w) X.A (throw (.ref a) : Sem Flow) (SP X pins D) X.xe s4) X.xe { s' with heap := h3 } := by
        rw [frm]
        refine HandSPX.setFlight_upZ fly fun h4 hh4 up4 => wpAny_throw (tk _ _ ?_)
        exact ⟨a, B, sI, pins, σ', H', cls, d, rfl, J, (show ∀ b o, sI.heap.get? b = some o → b ∉ frs X.stack → B.get? b = some o from nb), upA.trans up4, .inr (.inr (by rw [stk]; exact hh4)), na, os, ag, hno rfl⟩
      first
        | exact wpAny_bind (wpAny_pure (wpAny_bind last))
        | exact wpAny_bind last
    | true =>
      refine codeAny_handlers_suite_as ?_
      refine HandSPX.lands_againZ fly fun h4 fly4 up4 => ?_
      obtain ⟨m1, m2, m3, oe4, vs4, T4, oT4, tt4, he4, hz4, hd4, h14, hrest4⟩ := id fly4
      have J4 : Inv X pins σ' (upd H' a (excV cls d a)) { s' with heap := h4 } := inv_told (s' := { s' with heap := h4 }) J nb m1 (upA.trans up4) os ag m2 (by rw [stk]; exact nfr m3 he4 hd4) he4 hz4 ⟨_, hd4⟩
      have S4 := inv_suite J4 a
      refine store_ok (X := Cx.inSuite X a (X.pn ++ pins)) (v := .ref a) S4 nd slot (.inl loc) rfl (fun s5 S5 => ?_) (.inr loc)
      refine wpAny_mono ((hsu a (X.pn ++ pins)).run [] s5 _ _ _ S5 (hyes rfl a na)) (fun f s6 hsp => ?_) (fun _ _ z => False.elim z)
      have fin : ∀ {σ6 : L2.St} {H6 : Hp} {Q : Shared → Prop}, Inv (Cx.inSuite X a (X.pn ++ pins)) [] σ6 H6 s6 → (∀ s7, Inv X pins (σ6.set i none) H6 s7 → Q s7) →
          wpAny (model X.prog X.w) X.A (do bindName X.env n .none; unbindBehindTheSuite X.env n pos') (fun _ s7 => Q s7) X.xe s6 := fun {σ6 H6 Q} S6 hq => gone_ok (inv_unsuite ok S6) nd slot loc hq
      match f, hsp with
      | .next, ⟨σ6, H6, S6, q6⟩ => exact fin S6 fun s7 J7 => ⟨_, _, J7, q6⟩
      | .brk, ⟨σ6, H6, S6, q6⟩ => exact fin S6 fun s7 J7 => ⟨_, _, J7, q6⟩
      | .cont, ⟨σ6, H6, S6, q6⟩ => exact fin S6 fun s7 J7 => ⟨_, _, J7, q6⟩
      | .ret u, ⟨v6, σ6, H6, S6, r6, q6⟩ => exact fin S6 fun s7 J7 => ⟨_, _, _, J7, r6, q6⟩
  refine wpAny_Try_except ?_
  refine wpAny_mono ((hb _ (X.pn ++ pins) xe2 takes PassesOwn.looking).run [] s σ H D (inv.toTry _) h) (fun f s1 hsp => ?_) (fun e s1 he => he)
  match f, hsp with
  | .next, ⟨σ', H', J', q⟩ => exact wpAny_execs_nil ⟨σ', H', J'.ofTry ok, q⟩
  | .brk, ⟨σ', H', J', q⟩ => exact ⟨σ', H', J'.ofTry ok, q⟩
  | .cont, ⟨σ', H', J', q⟩ => exact ⟨σ', H', J'.ofTry ok, q⟩
  | .ret u, ⟨v, σ', H', J', r, q⟩ => exact ⟨v, σ', H', J'.ofTry ok, r, q⟩
end
end BW
/-! BCore22: try as a function of the environment. -/
namespace BW
open PySem PySem.Spec PyProof.Rows L2
open Evl (Ex Ex.refl Ex.trans Ex.new ex_rd ex_l ex_t)
/-- a suite's end: the name is gone -/
def suiteEnd (i : Nat) : SR → SR
  | .nx e => .nx (e.set i .no)
  | .bk e => .bk (e.set i .no)
  | .ct e => .ct (e.set i .no)
  | .rt d => .rt d
  | _ => .no
def SR.tryK (r : SR) (i : Nat) (tb : List (Nat × Bool)) (suite : G) : SR := match r with
  | .er e c p => (match tb.lookup c with
    | some true => suiteEnd i (suite (e.set i (.im (.exc c p))))
    | some false => .er e c p
    | none => .no)
  | r => r
def gTry (i : Nat) (tb : List (Nat × Bool)) (body suite : G) : G := fun env => SR.tryK (body env) i tb suite
/-- what such a table leans on -/
def ExmT (K : PySem.W.Frag) (c : Value) (tb : List (Nat × Bool)) : Prop := ∀ k b, tb.lookup k = some b → PySem.W.exmOne K (.ref (CL K k)) c = some b
theorem exmT_nil {K : PySem.W.Frag} {c : Value} : ExmT K c [] := fun k b h => by cases h
theorem exmT_cons {K : PySem.W.Frag} {c : Value} {tb : List (Nat × Bool)} {k : Nat} {b : Bool} (h1 : PySem.W.exmOne K (.ref (CL K k)) c = some b) (r : ExmT K c tb) : ExmT K c ((k, b) :: tb) := fun k' b' h => by
  rw [List.lookup_cons] at h
  cases z : k' == k with
  | true =>
    rw [z] at h
    have e := eq_of_beq z
    subst e
    cases h
    exact h1
  | false => rw [z] at h; exact r k' b' h
section
variable {X : Cx} {W : WX} {A H0 : Hp} {fr : Bool}
theorem vs_try (i : Nat) {x n : Str} {c : Value} {tb : List (Nat × Bool)} {body suite : List Stmt} {b₀ : Stmt} {np pos pos' : Pos} {gb gs : G} (T : ExmT X.K c tb) (tk : Takes X W) (nm : Names X x c) (nd : X.N.Nodup)
    (hb : ∀ (W' : WX) (pn : List (Addr × Obj)) (xe : Value → Shared → Prop), Takes (X.tr pn xe) W' → PassesOwn (model X.prog X.w) X.A X.env xe → VSs (X.tr pn xe) W' A H0 fr body gb)
    (hsu : ∀ (a : Addr) (pn : List (Addr × Obj)), VSs (Cx.inSuite X a pn) WF A H0 fr (b₀ :: suite) gs)
    (stk : X.stack = X.env :: X.outer := by rfl) (frm : X.env.frame = some X.env.locals := by rfl) (slot : X.N[i]? = some n := by rfl) (loc : X.env.kindOf n = some .local := by rfl) :
    VS X W A H0 fr (.Try body [.ExceptHandler (some (.Name x np)) (some n) (b₀ :: suite) pos'] [] [] pos) (gTry i tb gb gs) :=
  ps_imp (ps_tryK (tb := fun W' => rdS X.K W' A H0 fr gb) (ts := rdS X.K WF A H0 fr gs) stk frm nd slot loc nm tk hb hsu) fun Z σ H ⟨env, I, rl, q⟩ => ⟨env, I, rl, by
    have q0 : PostS X.K W A H0 fr I Z (SR.tryK (gb env) i tb gs) := q
    cases hg : gb env with
    | nx e => rw [hg] at q0; exact q0
    | bk e => rw [hg] at q0; exact q0
    | ct e => rw [hg] at q0; exact q0
    | rt d => rw [hg] at q0; exact q0
    | no => rw [hg] at q0; exact q0.elim
    | er e k p =>
      rw [hg] at q0
      have q1 : PostS X.K W A H0 fr I Z (match tb.lookup k with
        | some true => suiteEnd i (gs (e.set i (.im (.exc k p))))
        | some false => .er e k p
        | none => .no) := q0
      intro σ1 I1 H1 cls od r1 e1 err
      cases ht : tb.lookup k with
      | none => rw [ht] at q1; exact q1.elim
      | some b =>
        rw [ht] at q1
        refine ⟨b, by rw [err.1]; exact T k b ht, fun hb1 => ?_, fun hb1 => ?_⟩
        · subst hb1
          intro a ha
          have hcl : cls = .ref (CL X.K k) := err.1
          subst hcl
          have g := Grow.push (o := excV (.ref (CL X.K k)) od a) r1.g.ih ha
          have hrd : Rd X.K (upd I1 a (excV (.ref (CL X.K k)) od a)) (.ref a) (.exc k p) := by
            have e2 := err.2
            match p, e2 with
            | [], e2 =>
              have hod : od = none := e2
              subst hod
              exact .exc0 upd_same
            | [d], e2 =>
              obtain ⟨dx, v, hod, hd, hx⟩ := e2
              subst hod
              exact .exc1 upd_same (g.i _ _ hx) (Rd.of_sc hd)
          refine ⟨_, _, (r1.grow g).set_im (i := i) (d := .exc k p) hrd, ?_⟩
          have ei : Ex I (upd I1 a (excV (.ref (CL X.K k)) od a)) := e1.trans g.i
          have q2 : PostS X.K W A H0 fr I Z (suiteEnd i (gs (e.set i (.im (.exc k p))))) := q1
          cases hs : gs (e.set i (.im (.exc k p))) with
          | nx e2 => rw [hs] at q2; exact fun σ3 I3 H3 r3 e3 => q2 _ I3 H3 (r3.wipe [i]) (ei.trans e3)
          | bk e2 => rw [hs] at q2; exact fun σ3 I3 H3 r3 e3 => q2 _ I3 H3 (r3.wipe [i]) (ei.trans e3)
          | ct e2 => rw [hs] at q2; exact fun σ3 I3 H3 r3 e3 => q2 _ I3 H3 (r3.wipe [i]) (ei.trans e3)
          | rt d => rw [hs] at q2; exact q2
          | er e2 k2 p2 => rw [hs] at q2; exact q2.elim
          | no => rw [hs] at q2; exact q2.elim
        · subst hb1
          exact q1 σ1 I1 H1 cls od r1 e1 err⟩
end
/-! ### running it -/
@[simp] theorem s_gTry (i tb b s e) : gTry i tb b s e = SR.tryK (b e) i tb s := id rfl
@[simp] theorem tryK_nx (e i tb s) : SR.tryK (.nx e) i tb s = .nx e := id rfl
@[simp] theorem tryK_rt (e i tb s) : SR.tryK (.rt e) i tb s = .rt e := id rfl
theorem tryK_er {e : En} {c i : Nat} {p : List D} {tb : List (Nat × Bool)} {s : G} (h : tb.lookup c = some true) : SR.tryK (.er e c p) i tb s = suiteEnd i (s (e.set i (.im (.exc c p)))) := by
  unfold SR.tryK
  show (match tb.lookup c with | some true => _ | some false => _ | none => _) = _
  rw [h]
@[simp] theorem suiteEnd_nx (i e) : suiteEnd i (.nx e) = .nx (e.set i .no) := id rfl
@[simp] theorem suiteEnd_rt (i e) : suiteEnd i (.rt e) = .rt e := id rfl
end BW
/-! BCore23: count; calls within a suite. -/
namespace BW
open PySem PySem.Spec PyProof.Rows L2
open Evl (Ex Ex.refl Ex.trans Ex.new ex_rd ex_l ex_t)
/-! ### count -/
theorem countU {y : V} {uy : Value} (ry : RelV y uy) (fy : flatV y = true) : ∀ {ys : List V} {us : List Value}, Vals ys us → ys.all flatV = true → us.countP (eqU y) = ys.countP fun z => eqV z y
  | _, _, .nil, _ => rfl
  | v :: vs, _ :: _, .cons r q, f => by
    obtain ⟨f1, f2⟩ := Bool.and_eq_true_iff.mp (show (flatV v && vs.all flatV) = true from f)
    rw [List.countP_cons, List.countP_cons, countU ry fy q f2, eqU_of r f1]
def rCountL (K : PySem.W.Frag) : V → List V → Hp → VK → Prop := fun x xs H Q => ∃ (p : Addr) (ys : List V) (y : V), x = .ref p ∧ xs = [y] ∧ SqL K H p ys ∧ flatV y = true ∧ ys.all flatV = true ∧ Q (.int (ys.countP fun z => eqV z y : Nat)) H
def rCountT (K : PySem.W.Frag) : V → List V → Hp → VK → Prop := fun x xs H Q => ∃ (p : Addr) (ys : List V) (y : V), x = .ref p ∧ xs = [y] ∧ SqT K H p ys ∧ flatV y = true ∧ ys.all flatV = true ∧ Q (.int (ys.countP fun z => eqV z y : Nat)) H
theorem mt_cntL {X : Cx} : MtR X "list.count" (rCountL X.K) := by
  intro pins s σ H x xs v us Q I rx rxs h
  obtain ⟨p, ys, y, rfl, rfl, hs, fy, fys, q⟩ := h
  cases rx
  obtain ⟨u, rfl, ry⟩ := rxs.one
  obtain ⟨its, rv, ⟨⟨cls, dd, data, sl⟩, n, ho, hc, hdn, hd⟩, hlen⟩ := I.list hs
  have hc' : cls = .type "list" := hc
  have hd' : data = .seq its.toArray n := hd
  subst hc' hd'
  refine call_meets PySem.F.slot_list_count ⟨_, ho, rfl⟩ PySem.F.entry_list_count (PySem.F.args_list_count_2 _ _) (SeqAt.list_countAt p its.toArray n dd sl u (eqU y)) ⟨ho, fun w hw => mem_eqAt ry fy rv fys w (by simpa using hw), ?_⟩
  refine ⟨.int (ys.countP fun z => eqV z y : Nat), H, I.tok _, ⟨s.toks, ?_⟩, q⟩
  rw [show its.toArray.toList = its from rfl, countU ry fy rv fys]
theorem mt_cntT {X : Cx} : MtR X "tuple.count" (rCountT X.K) := by
  intro pins s σ H x xs v us Q I rx rxs h
  obtain ⟨p, ys, y, rfl, rfl, hs, fy, fys, q⟩ := h
  cases rx
  obtain ⟨u, rfl, ry⟩ := rxs.one
  obtain ⟨its, rv, tp, hlen⟩ := I.tuple hs
  obtain ⟨⟨cls, dd, data, sl⟩, ho, hc, n, hd⟩ := id tp
  have hc' : cls = .type "tuple" := hc
  have hd' : data = .seq its.toArray n := hd
  subst hc' hd'
  refine call_meets PySem.F.slot_tuple_count ⟨_, ho, rfl⟩ PySem.F.entry_tuple_count (PySem.F.args_tuple_count_2 _ _) (SeqAt.tuple_countAt p its.toArray n dd sl u (eqU y)) ⟨ho, fun w hw => mem_eqAt ry fy rv fys w (by simpa using hw), ?_⟩
  refine ⟨.int (ys.countP fun z => eqV z y : Nat), H, I.tok _, ⟨s.toks, ?_⟩, q⟩
  rw [show its.toArray.toList = its from rfl, countU ry fy rv fys]
/-! ### max, min of a tuple -/
def rMaxT (K : PySem.W.Frag) : List V → Hp → VK → Prop := fun vs H Q => ∃ (a : Addr) (n : Int) (r : List Int), vs = [V.ref a] ∧ SqT K H a ((n :: r).map V.int) ∧ Q (.int (r.foldl max n)) H
def rMinT (K : PySem.W.Frag) : List V → Hp → VK → Prop := fun vs H Q => ∃ (a : Addr) (n : Int) (r : List Int), vs = [V.ref a] ∧ SqT K H a ((n :: r).map V.int) ∧ Q (.int (r.foldl min n)) H
theorem alike_ints (l : List Int) : PySem.W.AlikeAll (l.map PyData.int) := ⟨fun x hx y hy => by
  obtain ⟨i, _, rfl⟩ := List.mem_map.mp hx
  obtain ⟨j, _, rfl⟩ := List.mem_map.mp hy
  rfl, fun x hx => by
  obtain ⟨i, _, rfl⟩ := List.mem_map.mp hx
  intro z
  cases z⟩
theorem cr_maxT {X : Cx} (hc : X.calm = true) (hu : X.A.units + 64 < cLine) : CallR X (.builtin "max") (rMaxT X.K) := by
  intro pins s σ H vs us Q I rr h
  obtain ⟨a, n, r, rfl, hs, q⟩ := h
  obtain ⟨its, rv, tp, _⟩ := I.tuple hs
  rw [Vals.ref1 rr]
  have reads : ReadsAll s.heap its.toArray.toList (PyData.int n :: r.map PyData.int) [] := rv.ints.reads s.heap
  have al : PySem.W.AlikeAll (PyData.int n :: r.map PyData.int) := alike_ints (n :: r)
  refine PySem.W.max_tuple_data (I.ok.hd hc) tp reads al (by rw [show PyData.depthAll (PyData.int n :: r.map PyData.int) = 0 from depthAll_ints (n :: r)]; omega) fun i v h' tk bs _ rd hk => ?_
  rw [PySem.W.maxD_ints] at rd
  obtain ⟨t, ht, _⟩ := reads_int_inv rd
  exact ⟨.int (r.foldl max n), H, I.kept (t' := tk) hk, ⟨t, ht⟩, q⟩
theorem cr_minT {X : Cx} (hc : X.calm = true) (hu : X.A.units + 64 < cLine) : CallR X (.builtin "min") (rMinT X.K) := by
  intro pins s σ H vs us Q I rr h
  obtain ⟨a, n, r, rfl, hs, q⟩ := h
  obtain ⟨its, rv, tp, _⟩ := I.tuple hs
  rw [Vals.ref1 rr]
  have reads : ReadsAll s.heap its.toArray.toList (PyData.int n :: r.map PyData.int) [] := rv.ints.reads s.heap
  have al : PySem.W.AlikeAll (PyData.int n :: r.map PyData.int) := alike_ints (n :: r)
  refine PySem.W.min_tuple_data (I.ok.hd hc) tp reads al (by rw [show PyData.depthAll (PyData.int n :: r.map PyData.int) = 0 from depthAll_ints (n :: r)]; omega) fun i v h' tk bs _ rd hk => ?_
  rw [PySem.W.minD_ints] at rd
  obtain ⟨t, ht, _⟩ := reads_int_inv rd
  exact ⟨.int (r.foldl min n), H, I.kept (t' := tk) hk, ⟨t, ht⟩, q⟩
def maxTD : List D → R D
  | [.tup l] => match intsD l with
    | some (n :: ns) => .ok (.int (ns.foldl max n))
    | _ => .no
  | _ => .no
def minTD : List D → R D
  | [.tup l] => match intsD l with
    | some (n :: ns) => .ok (.int (ns.foldl min n))
    | _ => .no
  | _ => .no
theorem nea_maxT : NoErA maxTD := fun ds c p => by
  unfold maxTD
  repeat' split
  all_goals exact fun z => nomatch z
theorem nea_minT : NoErA minTD := fun ds c p => by
  unfold minTD
  repeat' split
  all_goals exact fun z => nomatch z
section
variable {K : PySem.W.Frag}
theorem gc_maxT : GC K (rMaxT K) [false] maxTD := gc1 fun v x d H Q hv e => by
  cases x <;> try (cases e; done)
  rename_i l
  obtain ⟨a, vs, rfl, h1, h2⟩ := hv.tup_inv
  have e' : (match intsD l with | some (n :: ns) => R.ok (D.int (ns.foldl max n)) | _ => .no) = .ok d := e
  cases h : intsD l with
  | none => rw [h] at e'; cases e'
  | some ns =>
    rw [h] at e'
    cases ns with
    | nil => cases e'
    | cons n ns =>
      cases e'
      have k := (ints_rd h2 h).1
      exact ⟨_, rfl, fun q => ⟨a, n, ns, rfl, (k ▸ h1.sq), q⟩⟩
theorem gc_minT : GC K (rMinT K) [false] minTD := gc1 fun v x d H Q hv e => by
  cases x <;> try (cases e; done)
  rename_i l
  obtain ⟨a, vs, rfl, h1, h2⟩ := hv.tup_inv
  have e' : (match intsD l with | some (n :: ns) => R.ok (D.int (ns.foldl min n)) | _ => .no) = .ok d := e
  cases h : intsD l with
  | none => rw [h] at e'; cases e'
  | some ns =>
    rw [h] at e'
    cases ns with
    | nil => cases e'
    | cons n ns =>
      cases e'
      have k := (ints_rd h2 h).1
      exact ⟨_, rfl, fun q => ⟨a, n, ns, rfl, (k ▸ h1.sq), q⟩⟩
end
@[simp] theorem maxT_encP (t : Int × Int) : maxTD [encP t] = .ok (.int (max t.1 t.2)) := id rfl
@[simp] theorem minT_encP (t : Int × Int) : minTD [encP t] = .ok (.int (min t.1 t.2)) := id rfl
/-! ### list.count told -/
def cntD : D → D → R D
  | .lst l, x => if x.sc.isSome && allSc l then .ok (.int (l.countP fun y => eqS y x : Nat)) else .no
  | _, _ => .no
theorem sc_flats {K : PySem.W.Frag} {I : Hp} : ∀ {vs : List V} {ds : List D}, RdA K I vs ds → allSc ds = true → vs.all flatV = true
  | _, _, .nil, _ => rfl
  | _, _, .cons (d := d) (ds := r) h q, e => by
    obtain ⟨e1, e2⟩ := Bool.and_eq_true_iff.mp (show (d.sc.isSome && allSc r) = true from e)
    rw [List.all_cons, (sc_flat h e1).1, sc_flats q e2]
    rfl
theorem sc_eqV {K : PySem.W.Frag} {I J : Hp} {v w : V} {d e : D} (h : Rd K I v d) (k : Rd K J w e) (hd : d.sc.isSome = true) (he : e.sc.isSome = true) : eqV v w = eqS d e := by
  obtain ⟨v', hv⟩ := Option.isSome_iff_exists.mp hd
  obtain ⟨w', hw⟩ := Option.isSome_iff_exists.mp he
  unfold eqS
  rw [hv, hw, h.sc hv, k.sc hw]
theorem sc_count {K : PySem.W.Frag} {I J : Hp} {w : V} {e : D} (k : Rd K J w e) (he : e.sc.isSome = true) : ∀ {vs : List V} {ds : List D}, RdA K I vs ds → allSc ds = true → (vs.countP fun z => eqV z w) = ds.countP fun y => eqS y e
  | _, _, .nil, _ => rfl
  | _, _, .cons (d := d) (ds := r) h q, f => by
    obtain ⟨f1, f2⟩ := Bool.and_eq_true_iff.mp (show (d.sc.isSome && allSc r) = true from f)
    rw [List.countP_cons, List.countP_cons, sc_count k he q f2, sc_eqV h k f1 he]
section
variable {X : Cx} {W : WX} {A H0 : Hp} {a b : Expr} {fa fb : F} {pos : Pos}
theorem ve_cntL {apos cpos : Pos} (ha : VE X W A H0 a fa) (hb : VB X W A H0 b fb)
    (hbase : attributeBase a "count" X.env (eval a X.env) = eval a X.env := by rfl)
    (hfew : ((backTo cpos (starEach [b] X.env)).all (fun x => !x.1) && (backToKw cpos (keywordEach [] X.env)).all (fun x => x.1.isSome)
      && decide ([b].length + ([] : List Keyword).length + (if ([] : List Keyword).isEmpty then 0 else 1) < 30)) = true := by rfl)
    (hline : (apos.endLine == cpos.line) = true := by rfl) (hs : starEach [b] X.env = (false, eval b X.env) :: starEach [] X.env := by rfl) (hplain : (backTo cpos (starEach [] X.env)).any (·.1) = false := by rfl) :
    VE X W A H0 (.Call (.Attribute a "count" apos) [b] [] cpos) (f2 cntD (fLs fa) fb) :=
  pe_imp (pe_bm PySem.F.plainAttrs_list PySem.F.slot_list_count PySem.F.type_list_count mt_cntL ha (pa_cons hb pa_nil hs) hbase hfew hline hs hplain) fun σ H Q ⟨env, I, rl, q⟩ => ⟨env, I, rl, by
    have q0 : PostE X.K W σ I H (((fa env).bind lsD).bind fun x => (fb env).bind fun y => cntD x y) Q := q
    cases hf : fa env with
    | er c p => rw [hf] at q0; exact q0
    | no => rw [hf] at q0; exact q0.elim
    | ok d =>
      rw [hf] at q0
      rcases D.lst_or d with ⟨l, rfl⟩ | hd
      · have q1 : PostE X.K W σ I H ((fb env).bind fun y => cntD (.lst l) y) Q := q0
        intro v I1 H1 g1 k1
        obtain ⟨a, vs, rfl, h1, h2⟩ := k1.lst_inv
        have hH : H1 a = some (.lst vs) := g1.ih _ _ h1
        refine ⟨.inl ⟨rfl, vs, .inl (.inl hH)⟩, env, I1, rl.grow g1, ?_⟩
        cases hs2 : fb env with
        | er c p => rw [hs2] at q1; exact fun cls od I2 H2 g2 k2 => q1 cls od I2 H2 (g1.trans g2) k2
        | no => rw [hs2] at q1; exact q1.elim
        | ok e =>
          rw [hs2] at q1
          have q2 : PostE X.K W σ I H (if e.sc.isSome && allSc l then R.ok (.int (l.countP fun y => eqS y e : Nat)) else .no) Q := q1
          intro w I2 H2 g2 k2
          by_cases hc : (e.sc.isSome && allSc l) = true
          · rw [if_pos hc] at q2
            obtain ⟨c1, c2⟩ := Bool.and_eq_true_iff.mp hc
            refine ⟨a, vs, w, rfl, rfl, .inl (.inl (g2.h _ _ hH)), (sc_flat k2 c1).1, sc_flats h2 c2, ?_⟩
            rw [sc_count k2 c1 h2 c2]
            exact q2 _ I2 H2 (g1.trans g2) .int
          · rw [if_neg hc] at q2; exact q2.elim
      · cases d <;> first | exact absurd rfl (hd _) | exact q0.elim⟩
end
end BW
/-! BCore24: defs called within a suite. -/
namespace BW
open PySem PySem.Spec PyProof.Rows L2
open Evl (Ex Ex.refl Ex.trans Ex.new ex_rd ex_l ex_t)
theorem _root_.L2H.RoomH.units {k : Nat} {A : Around} (r : L2H.RoomH k A) : A.units + 64 < cLine := by have := r.un; omega
/-- a def that may be called while an error is handled -/
structure FnC (P : Program) (w : World) (K : PySem.W.Frag) (mg : Str → Option Value) (base : Heap) (CX : CXT) (k : Nat) (f : Addr) (fd : FuncData) (ps : List Str) (sp : Sp) : Prop where
  len : ∀ vs H Q E, sp vs H Q E → vs.length = ps.length
  run : ∀ (A : Around) (outer : List Env) (s : Shared) (H : Hp) (args : Args) (us : List Value) (vs : List V) (Q : VK) (E : XK), L2H.RoomH k A → Env0 P w K mg base A outer s H → BindsTo s fd args (ps.zip us) → Vals vs us → sp vs H Q E → codeAny (model P w) A (.call (.ref f) args) (CR CX outer P w H s Q E) s
/-- its body's context -/
abbrev cxC (CX : CXT) (P : Program) (w : World) (K : PySem.W.Frag) (mg : Str → Option Value) (base : Heap) (N : List Str) (qual : Str) (scope : Scope) (f : Addr) (cd : Value) (A : Around) (outer : List Env) (s : Shared) (H : Hp) (E : XK) : Cx := { cxOf CX P w K mg base N qual scope f cd A outer s H E with calm := false }
section
variable {P : Program} {w : World} {K : PySem.W.Frag} {mg : Str → Option Value} {base : Heap} {CX : CXT}
theorem inv_startC {N ps : List Str} {qual : Str} {scope : Scope} {f : Addr} {cd : Value} {A : Around} {outer : List Env} {s s1 : Shared} {H : Hp} {E : XK} {us : List Value} {vs : List V} (S : FnScope N ps scope) (e0 : Env0 P w K mg base A outer s H) (hl : vs.length = ps.length) (r : Vals vs us)
    (x : InCallC s s.heap.objs.size (bindL (envOfC qual scope s.heap.objs.size f cd).kindOf (ps.zip us) fun _ => none) (cellsFrom (s.heap.objs.size + 1) scope.names []) (bindC (envOfC qual scope s.heap.objs.size f cd).kindOf (ps.zip us) fun _ => none) s1) :
    Inv (cxC CX P w K mg base N qual scope f cd A outer s H E) [] (L2.start N vs) H s1 := by
  have e1 : Env0 P w K mg base { A with handled := none } outer s H := ⟨e0.frames, e0.mod, e0.bs, e0.bsz, e0.funs, e0.frf, e0.hok, e0.bare⟩
  have I := inv_start (CX := CX) (E := E) (A := { A with handled := none }) S rfl e1 hl r x
  exact ⟨⟨I.ok.mod, I.ok.kind, I.ok.glob, I.ok.blt, I.ok.above, I.ok.inj, I.ok.has, I.ok.cab, (fun z => by cases z), I.ok.frames, I.ok.stk, I.ok.exf, I.ok.bs, I.ok.bsz, I.ok.noex, I.ok.exfs, I.ok.funs, I.ok.frf⟩,
    I.os, I.bare, I.base, I.loc, I.cell, I.free, I.freeC, I.pin, I.hok, I.len⟩
theorem fnC_of {x qual : Str} {params : Arguments} {body : List Stmt} {scope : Scope} {f : Addr} {fd : FuncData} {N ps : List Str} {sp : Sp} {k : Nat} (F0 : FunD K x qual params body scope [] [] f fd) (S : FnScope N ps scope) (len : ∀ vs H Q E, sp vs H Q E → vs.length = ps.length)
    (hbody : ∀ (cdv : Value) (A : Around) (outer : List Env) (s : Shared) (H : Hp) (vs : List V) (Q : VK) (E : XK), L2H.RoomH k (A.deeper (envOfC qual scope s.heap.objs.size f cdv)) → sp vs H Q E →
      ∃ t, PSs (cxC CX P w K mg base N qual scope f cdv A outer s H E) body t ∧ t { nx := fun _ H' => Q .non H', rt := Q } (L2.start N vs) H) : FnC P w K mg base CX (k + 1) f fd ps sp := by
  obtain ⟨oc, od, dV, kV, doc, pm, an, cdv, ct, osl, rfl, lk, hcd, _, _⟩ := F0.ex
  refine ⟨len, fun A outer s H args us vs Q E room e0 bnd rel hsp => ?_⟩
  have hlen := len _ _ _ _ hsp
  have inK : K.In s.heap := e0.mod.kin.keeps fun b o e => (e0.bs b o e).1
  have noLim : s.heap.NoLimit := e0.mod.nolimit.keeps fun b o e => (e0.bs b o e).1
  have kinds : ∀ y ∈ ps.zip us, scope.names.lookup y.1 = some .local ∨ (scope.names.lookup y.1 = some .cell ∧ ((cellsFrom (s.heap.objs.size + 1) scope.names []).lookup y.1).isSome = true) := fun ⟨n, v⟩ hy =>
    (S.par n (List.of_mem_zip hy).1).elim .inl fun q => .inr ⟨q, PySem.W.cellsFrom_some _ _ _ (.inl q)⟩
  refine codeAny_call_function room.depth (inK _ _ lk) rfl S.co S.gen rfl (PySem.W.codeRec_of inK hcd) (bnd _ _ _ _ ?_)
  refine wpAny_newFunctionEnv_cells S.kind kinds fun env he s1 x => ?_
  subst he
  refine ⟨noLim.keeps x.toInCall.keep, codeAny_func ?_⟩
  obtain ⟨t, ht, hq⟩ := hbody cdv A outer s H vs Q E (room.deeper _) hsp
  have inv : Inv (cxC CX P w K mg base N qual scope f cdv A outer s H E) [] (L2.start N vs) H s1 := inv_startC S e0 hlen rel x
  refine wpAny_mono (ht.run [] s1 (L2.start N vs) H _ inv hq) (fun fl s' hs => ?_) fun e s' hs => hs
  match fl, hs with
  | .ret u, ⟨v, σ', H', J, rv, q⟩ => exact (⟨v, H', J.os, J.bare, J.base, J.hok, rv, q⟩ : CE outer P w H s Q u s')
  | .next, ⟨σ', H', J, q⟩ => exact (⟨V.non, H', J.os, J.bare, J.base, J.hok, rfl, q⟩ : CE outer P w H s Q .none s')
  | .brk, ⟨_, _, _, q⟩ => exact q.elim
  | .cont, ⟨_, _, _, q⟩ => exact q.elim
/-- where such a def's body stands -/
abbrev Cc (P : Program) (w : World) (K : PySem.W.Frag) (mg : Str → Option Value) (base : Heap) (N : List Str) (qual : Str) (st : Stmt) (f : Addr) (cdv : Value) (A : Around) (outer : List PySem.Env) (s : Shared) (H : Hp) (E : XK) : Cx := cxC (L2.CX P w) P w K mg base N qual (defScope st) f cdv A outer s H E
/-- it keeps the promise that its body tells -/
theorem fn_okC {x qual : Str} {st : Stmt} {f : Addr} {fd : FuncData} {N ps : List Str} {k : Nat} {fl : List Bool} {g : G} (F0 : Fn K x qual st f fd) (S : FnScope N ps (defScope st)) (hfl : fl.length = ps.length := by rfl) (hn : fl.length ≤ N.length := by decide)
    (body : ∀ (cdv : Value) (A : Around) (outer : List PySem.Env) (s : Shared) (H I : Hp) (E : XK), L2H.RoomH k (A.deeper (envOfC qual (defScope st) s.heap.objs.size f cdv)) → Takes (Cc P w K mg base N qual st f cdv A outer s H E) (WB E) →
      VSs (Cc P w K mg base N qual st f cdv A outer s H E) (WB E) I H false (defBody st) g) :
    FnC P w K mg base (L2.CX P w) (k + 1) f fd ps (spF K fl (defD N.length fl g)) := by
  refine fnC_of F0 S (spF_len hfl) fun cdv A outer s H vs Q E room h => ?_
  obtain ⟨ds, I, ie, ha, q⟩ := h
  refine ⟨_, body cdv A outer s H I E room (takes_of rfl rfl rfl rfl), env0 N.length fl ds, I, rel0 ie ha hn, ?_⟩
  have hl : ds.length = fl.length := argsLen ha
  have q1 : PostE K (WB E) [] I H (if ds.length = fl.length then outD (g (env0 N.length fl ds)) else .no) Q := q
  rw [if_pos hl] at q1
  cases hg : g (env0 N.length fl ds) with
  | nx e => rw [hg] at q1; exact fun σ' I' H' r _ => q1 .non I' H' r.g .non
  | rt d => rw [hg] at q1; exact q1
  | er e c p => rw [hg] at q1; exact fun σ' I' H' cls od r _ kk => q1 cls od I' H' r.g kk
  | bk e => rw [hg] at q1; exact q1.elim
  | ct e => rw [hg] at q1; exact q1.elim
  | no => rw [hg] at q1; exact q1.elim
structure CalC (P : Program) (w : World) (K : PySem.W.Frag) (mg : Str → Option Value) (base : Heap) (x : Str) (k : Nat) (fl : List Bool) (m : List D → R D) : Prop where
  ex : ∃ (f : Addr) (fd : FuncData) (ps : List Str), FnC P w K mg base (L2.CX P w) k f fd ps (spF K fl m) ∧ mg x = some (.ref f) ∧ PySem.W.keepIn K (.ref f) = true ∧ Binds K fd ps []
end
section
variable {X : Cx} {CX : CXT} {k : Nat} {f : Addr} {fd : FuncData} {ps : List Str} {sp : Sp} {E : L2.St → XK}
theorem fnC_run {pins : List (Addr × Obj)} {σ : L2.St} {H : Hp} {s : Shared} {Q : VK} {us : List Value} {vs : List V} (ok : FnC X.prog X.w X.K X.mg X.base CX k f fd ps sp) (room : L2H.RoomH k X.A) (bnd : Binds X.K fd ps []) (out : PassesAt CX X σ (E σ)) (inv : Inv X pins σ H s) (rel : Vals vs us) (q : sp vs H Q (E σ)) :
    wpAny (model X.prog X.w) X.A (call (.ref f) us) (EP X pins σ Q) X.xe s := by
  have len : us.length = ps.length := rel.length.symm.trans (ok.len _ _ _ _ q)
  have bt := bnd s us inv.kIn (by rw [List.append_nil]; exact len)
  rw [List.append_nil] at bt
  refine wpAny_call (codeAny_mono (ok.run X.A X.stack s H ⟨us, []⟩ us vs Q (E σ) room inv.env0 bt rel q) fun r t hr => ?_)
  match r, hr with
  | .error e, hr => exact out pins H s e t inv hr
  | .ok (.ret u), hr => exact inv.after hr
end
section
variable {X : Cx} {W : WX} {A H0 : Hp} {e : Expr} {pos : Pos} {x : Str} {j k : Nat} {fl : List Bool} {m : List D → R D} {es : List Expr} {fs : FA} {p : Pos}
theorem CalC.keeps (C : CalC X.prog X.w X.K X.mg X.base x k fl m) (hr : L2H.RoomH j X.A) (tk : Takes X W) (hk : k ≤ j) (hg : Gl X x) (hdb : (x == ("__debug__" : Str)) = false) : Keeps X W x (spF X.K fl m) := fun e es t p pos ha he hpl => by
  obtain ⟨f, fd, ps, F0, h1, h2, h3⟩ := C.ex
  refine ⟨fun pins s σ H Q I h => ?_⟩
  refine wpAny_Call_Name_kw (ld_glob I hg h1 ?_ hdb)
  refine PySem.W.callWith_K (h₀ := X.base) I.ok.mod.kin h2 (thn (ha.run pos pins s σ H _ I h) fun us s1 ⟨vs, H1, I1, r, q⟩ => ⟨I1.kIn, ?_⟩) he hpl
  exact fnC_run (E := WE W) F0 (hr.mono hk) h3 (passAt tk σ) I1 r q
theorem ve_keeps (C : Keeps X W x (spF X.K fl m)) (ha : VA X W A H0 (e :: es) fl fs) (he : starEach (e :: es) X.env = (false, eval e X.env) :: starEach es X.env) (hpl : (backTo pos (starEach es X.env)).any (·.1) = false) :
    VE X W A H0 (.Call (.Name x p) (e :: es) [] pos) (fA m fs) := pe_imp (C e es _ p pos ha he hpl) fun σ H Q ⟨env, I, rl, q⟩ => ⟨env, I, rl, by
  have q1 : PostE X.K W σ I H ((fs env).bind m) Q := q
  cases hs : fs env with
  | er c p => rw [hs] at q1; exact q1
  | no => rw [hs] at q1; exact q1.elim
  | ok ds =>
    rw [hs] at q1
    have q2 : PostE X.K W σ I H (m ds) Q := q1
    refine fun vs I1 H1 g1 k1 => ⟨ds, I1, g1.ih, k1, ?_⟩
    cases hmd : m ds with
    | no => rw [hmd] at q2; exact q2.elim
    | er c p => rw [hmd] at q2; exact fun cls od I2 H2 g2 k2 => q2 cls od I2 H2 (g1.trans g2) k2
    | ok d => rw [hmd] at q2; exact fun v I2 H2 g2 k2 => q2 v I2 H2 (g1.trans g2) k2⟩
/-- a def called within a suite -/
theorem ve_calC (C : CalC X.prog X.w X.K X.mg X.base x k fl m) (hr : L2H.RoomH j X.A) (tk : Takes X W) (ha : VA X W A H0 (e :: es) fl fs) (hk : k ≤ j := by decide) (hg : Gl X x := by rfl) (hdb : (x == ("__debug__" : Str)) = false := by decide) (he : starEach (e :: es) X.env = (false, eval e X.env) :: starEach es X.env := by rfl) (hpl : (backTo pos (starEach es X.env)).any (·.1) = false := by rfl) :
    VE X W A H0 (.Call (.Name x p) (e :: es) [] pos) (fA m fs) := ve_keeps (C.keeps hr tk hk hg hdb) ha he hpl
theorem roomS {a : Addr} {pn : List (Addr × Obj)} (hr : Room j X.A) : L2H.RoomH j (Cx.inSuite X a pn).A := ⟨hr.dp, hr.un⟩
end
end BW
/-! BCore25: list(range(a, b)). -/
namespace BW
open PySem PySem.Spec PyProof.Rows L2
open Evl (Ex Ex.refl Ex.trans Ex.new ex_rd ex_l ex_t)
def rg2D : D → D → R D
  | .int i, .int j => if (0 ≤ i ∧ i ≤ 16777216) ∧ 0 ≤ j ∧ j ≤ 16777216 then .ok (.lst (rangeL i (j - i).toNat)) else .no
  | _, _ => .no
theorem rd_range {K : PySem.W.Frag} {I : Hp} (i j : Int) : RdA K I (rgV i j) (rangeL i (j - i).toNat) := by
  unfold rgV rangeL
  generalize (j - i).toNat = k
  have : ∀ l : List Nat, RdA K I (l.map fun k => V.int (i + (k : Nat))) (l.map fun k => D.int (i + (k : Nat))) := fun l => by
    induction l with
    | nil => exact .nil
    | cons a r ih => exact .cons .int ih
  exact this _
section
variable {X : Cx} {W : WX} {A H0 : Hp} {a b : Expr} {fa fb : F} {pos : Pos}
theorem vf_listRg2 {p p2 pos2 : Pos} (hc : X.calm = true) (hm : X.mg "list" = none) (hm2 : X.mg "range" = none) (ha : VE X W A H0 a fa) (hb : VE X W A H0 b fb) (hg : Gl X "list" := by rfl) (hg2 : Gl X "range" := by rfl) (na : starEach [a, b] X.env = (false, eval a X.env) :: starEach [b] X.env := by rfl)
    (nb : starEach [b] X.env = (false, eval b X.env) :: starEach [] X.env := by rfl) (hp : (backTo pos2 (starEach [b] X.env)).any (·.1) = false := by rfl)
    (na2 : starEach [.Call (.Name "range" p2) [a, b] [] pos2] X.env = (false, eval (.Call (.Name "range" p2) [a, b] [] pos2) X.env) :: starEach [] X.env := by rfl) : VF X W A H0 (.Call (.Name "list" p) [.Call (.Name "range" p2) [a, b] [] pos2] [] pos) (f2 rg2D fa fb) :=
  pe_imp (pe_listRg hc hg hm (prg_2 hg2 hm2 ha hb na nb hp) na2) fun σ H Q ⟨env, I, rl, q⟩ => ⟨env, I, rl, by
    have q0 : PostF X.K W σ I H ((fa env).bind fun x => (fb env).bind fun y => rg2D x y) Q := q
    cases hf : fa env with
    | er c p => rw [hf] at q0; exact q0
    | no => rw [hf] at q0; exact q0.elim
    | ok d =>
      rw [hf] at q0
      have q1 : PostF X.K W σ I H ((fb env).bind fun y => rg2D d y) Q := q0
      intro v I1 H1 g1 k1
      refine ⟨env, I1, rl.grow g1, ?_⟩
      cases hs : fb env with
      | er c p => rw [hs] at q1; exact fun cls od I2 H2 g2 k2 => q1 cls od I2 H2 (g1.trans g2) k2
      | no => rw [hs] at q1; exact q1.elim
      | ok e =>
        rw [hs] at q1
        have q2 : PostF X.K W σ I H (rg2D d e) Q := q1
        intro u I2 H2 g2 k2
        cases d <;> try (exact q2.elim)
        rename_i i
        cases e <;> try (exact q2.elim)
        rename_i j
        rw [k1.int_inv, k2.int_inv]
        have q3 : PostF X.K W σ I H (if (0 ≤ i ∧ i ≤ 16777216) ∧ 0 ≤ j ∧ j ≤ 16777216 then .ok (.lst (rangeL i (j - i).toNat)) else .no) Q := q2
        by_cases hz : (0 ≤ i ∧ i ≤ 16777216) ∧ 0 ≤ j ∧ j ≤ 16777216
        · rw [if_pos hz] at q3
          have gg := g1.trans g2
          refine ⟨i, j, rfl, rfl, RgOk.of_le hz.1.1 hz.2.2 hz.1.2 hz.2.1, fun m hm' => ?_⟩
          exact q3 m _ I2 _ (gg.trans (Grow.hid gg.ih (Ex.new hm'))) (Evl.fresh_back gg.h hm') (Evl.fresh_back gg.ih hm') upd_same (rd_range i j)
        · rw [if_neg hz] at q3
          exact q3.elim⟩
end
@[simp] theorem s_rg2 {i j : Int} (h1 : 0 ≤ i) (h2 : i ≤ 16777216) (h3 : 0 ≤ j) (h4 : j ≤ 16777216) : rg2D (.int i) (.int j) = .ok (.lst (rangeL i (j - i).toNat)) := by
  have e : rg2D (.int i) (.int j) = if (0 ≤ i ∧ i ≤ 16777216) ∧ 0 ≤ j ∧ j ≤ 16777216 then .ok (.lst (rangeL i (j - i).toNat)) else .no := by simp only [rg2D]
  rw [e, if_pos ⟨⟨h1, h2⟩, h3, h4⟩]
end BW
/-! BCore26: slices, sums of lists: rewriting. -/
namespace BW
open PySem PySem.Spec PyProof.Rows L2
def R.sl (d : R D) (lo hi : R (Option Int)) : R D := d.bind fun d => lo.bind fun l => hi.bind fun h => sliceD d l h
@[simp] theorem sl_ok (d l h) : R.sl (.ok d) (.ok l) (.ok h) = sliceD d l h := id rfl
@[simp] theorem s_fSl (f lo hi e) : fSl f lo hi e = R.sl (f e) (lo e) (hi e) := id rfl
@[simp] theorem s_oN (e) : oN e = .ok none := id rfl
def oI : D → R (Option Int)
  | .int i => .ok (some i)
  | _ => .no
@[simp] theorem s_oI (i) : oI (.int i) = .ok (some i) := id rfl
@[simp] theorem s_oS (f e) : oS f e = (f e).bind oI := by
  unfold oS
  congr 1
theorem cut_take {α : Type} (l : List α) {k : Int} (h : 0 ≤ k) : cutL l none (some k) = l.take k.toNat := by
  obtain ⟨j, rfl⟩ := Int.eq_ofNat_of_zero_le h
  unfold cutL
  rw [HT.sIx_none, HT.sIx_nat, Int.toNat_natCast, List.drop_zero, Nat.sub_zero, Nat.min_def]
  split
  · rfl
  · rw [List.take_of_length_le (Nat.le_refl _), List.take_of_length_le (by omega)]
theorem cut_drop {α : Type} (l : List α) {k : Int} (h : 0 ≤ k) : cutL l (some k) none = l.drop k.toNat := by
  obtain ⟨j, rfl⟩ := Int.eq_ofNat_of_zero_le h
  unfold cutL
  rw [HT.sIx_none, HT.sIx_nat, Int.toNat_natCast, Nat.min_def]
  split
  · rw [List.take_of_length_le (by rw [List.length_drop]; omega)]
  · rw [List.drop_of_length_le (Nat.le_refl _), List.drop_of_length_le (by omega), List.take_nil]
@[simp] theorem sl_take_l (l) {k : Int} (h : 0 ≤ k) : sliceD (.lst l) none (some k) = .ok (.lst (l.take k.toNat)) := by
  show R.ok (D.lst (cutL l none (some k))) = _
  rw [cut_take l h]
@[simp] theorem sl_take_t (l) {k : Int} (h : 0 ≤ k) : sliceD (.tup l) none (some k) = .ok (.tup (l.take k.toNat)) := by
  show R.ok (D.tup (cutL l none (some k))) = _
  rw [cut_take l h]
@[simp] theorem sl_drop_l (l) {k : Int} (h : 0 ≤ k) : sliceD (.lst l) (some k) none = .ok (.lst (l.drop k.toNat)) := by
  show R.ok (D.lst (cutL l (some k) none)) = _
  rw [cut_drop l h]
@[simp] theorem sl_drop_t (l) {k : Int} (h : 0 ≤ k) : sliceD (.tup l) (some k) none = .ok (.tup (l.drop k.toNat)) := by
  show R.ok (D.tup (cutL l (some k) none)) = _
  rw [cut_drop l h]
@[simp] theorem sl_drop_s (l) {k : Int} (h : 0 ≤ k) : sliceD (.scr l) (some k) none = .ok (.lst ((l.drop k.toNat).map D.int)) := by
  show R.ok (D.lst ((cutL l (some k) none).map D.int)) = _
  rw [cut_drop l h]
@[simp] theorem sl_take_s (l) {k : Int} (h : 0 ≤ k) : sliceD (.scr l) none (some k) = .ok (.lst ((l.take k.toNat).map D.int)) := by
  show R.ok (D.lst ((cutL l none (some k)).map D.int)) = _
  rw [cut_take l h]
@[simp] theorem add_l {x y : List D} (h : x.length + y.length ≤ 16777216) : addD (.lst x) (.lst y) = .ok (.lst (x ++ y)) := if_pos (sz_line ▸ h)
@[simp] theorem add_t {x y : List D} (h : x.length + y.length ≤ 16777216) : addD (.tup x) (.tup y) = .ok (.tup (x ++ y)) := if_pos (sz_line ▸ h)

end BW
/-! BCore27: zip of a list or a tuple with a list or a tuple; reversed. -/
namespace BW
open PySem PySem.Spec PyProof.Rows L2
open Evl (Ex Ex.refl Ex.trans Ex.new ex_rd ex_l ex_t)
/-- a list's kind, a tuple's -/
inductive Kd where
  | l | t
def SqK (K : PySem.W.Frag) : Kd → Hp → Addr → List V → Prop
  | .l => SqL K
  | .t => SqT K
def HsK : Kd → Heap → Addr → Array Value → Prop
  | .l => fun h a xs => h.IsList a xs
  | .t => fun h a xs => h.IsTuple a xs
def ItK : Kd → Heap → Addr → Addr → Nat → Prop
  | .l => fun h it a i => h.IsListIter it a i
  | .t => fun h it a i => h.IsTupleIter it a i
def ObK : Kd → Addr → Obj
  | .l => fun a => { cls := .type "list_iterator", data := .fields #[.ref a, .int 0 0] }
  | .t => fun a => { cls := .type "tuple_iterator", data := .fields #[.ref a, .int 0 0] }
theorem drawsK {prog : Program} {w : World} {A : Around} (hh : A.handled = none) : ∀ (k : Kd) (it l : Addr) (hne : l ≠ it) (items : Array Value), Draws prog w A it [it, l] items.size (fun i v => items[i]? = some v) (fun i h => ItK k h it l i ∧ HsK k h l items)
  | .l, it, l, hne, items => Draws.list hh it l hne items
  | .t, it, l, hne, items => Draws.tuple hh it l hne items
theorem beginsK : ∀ (k : Kd) (l : Addr) (items : Array Value), Begins (.ref l) (ObK k l) fun h => HsK k h l items
  | .l, l, items => begins_list l items
  | .t, l, items => begins_tuple l items
theorem itK_new {h : Heap} {it a : Addr} : ∀ {k : Kd}, h.get? it = some (ObK k a) → ItK k h it a 0
  | .l, e => ⟨_, e, rfl, rfl⟩
  | .t, e => ⟨_, e, rfl, rfl⟩
theorem itK_ob {h : Heap} {it a : Addr} {i : Nat} : ∀ {k : Kd}, ItK k h it a i → ∃ o, h.get? it = some o ∧ ∀ v, o.data ≠ .cell v
  | .l, ⟨o, e, _, d⟩ => ⟨o, e, fun v q => by rw [d] at q; cases q⟩
  | .t, ⟨o, e, _, d⟩ => ⟨o, e, fun v q => by rw [d] at q; cases q⟩
theorem itK_at {h h' : Heap} {it a : Addr} {i : Nat} : ∀ {k : Kd}, ItK k h it a i → (∀ o, h.get? it = some o → h'.get? it = some o) → ItK k h' it a i
  | .l, s, e => s.at e
  | .t, s, e => s.at e
theorem hsK_lt {h : Heap} {a : Addr} {xs : Array Value} : ∀ {k : Kd}, HsK k h a xs → a < h.objs.size
  | .l, s => by
    obtain ⟨o, e, _⟩ := s
    exact Heap.lt_size e
  | .t, s => by
    obtain ⟨o, e, _⟩ := s
    exact Heap.lt_size e
theorem sqK_told {X : Cx} {pins : List (Addr × Obj)} {σ : L2.St} {H : Hp} {s : Shared} {a : Addr} {xs : List V} : ∀ {k : Kd}, Inv X pins σ H s → SqK X.K k H a xs → ∃ us : List Value, Vals xs us ∧ HsK k s.heap a us.toArray
  | .l, I, q => by
    obtain ⟨us, rv, p, _⟩ := I.list q
    exact ⟨us, rv, p.isList⟩
  | .t, I, q => by
    obtain ⟨us, rv, p, _⟩ := I.tuple q
    exact ⟨us, rv, p⟩
theorem sqK_inj {X : Cx} {pins : List (Addr × Obj)} {σ : L2.St} {H : Hp} {s : Shared} {a : Addr} {xs ys : List V} : ∀ {k : Kd}, Inv X pins σ H s → SqK X.K k H a xs → SqK X.K k H a ys → xs = ys
  | .l, I, p, q => I.list_inj p q
  | .t, I, p, q => I.tuple_inj p q
/-- two rows as they stand at each turn, their items in new pairs -/
def ItZ (K : PySem.W.Frag) (k1 k2 : Kd) (a b : Addr) : It where
  go := fun i H => ∃ (xs ys : List V) (x y : V), SqK K k1 H a xs ∧ SqK K k2 H b ys ∧ xs[i]? = some x ∧ ys[i]? = some y
  yld := fun i H v H' => ∃ T x y, v = .ref T ∧ H T = none ∧ (∃ ob : Obj, ob.dict = none ∧ H' = upd H T (.frz ob (.tup [x, y]))) ∧ (∀ xs, SqK K k1 H a xs → xs[i]? = some x) ∧ ∀ ys, SqK K k2 H b ys → ys[i]? = some y
  stop := fun i H => ∃ xs ys : List V, SqK K k1 H a xs ∧ SqK K k2 H b ys ∧ i ≤ xs.length ∧ i ≤ ys.length ∧ (i = xs.length ∨ i = ys.length)
theorem turnZ {P : Program} {w : World} {K : PySem.W.Frag} {elts : List Expr} {kk : Nat} {tpos : Pos} {k1 k2 : Kd} {a b z TI TO i1 i2 : Addr} (D : ZipSep2 z TI TO i1 i2 [i1, a] [i2, b]) (n1 : a ≠ i1) (n2 : b ≠ i2) :
    Turn P w K (.Tuple elts kk tpos) (ItZ K k1 k2 a b) [z, TI, TO, i1, i2] z (fun i h => IsZip h z TI TO .none ∧ IsTupOf2 h TI (.ref i1) (.ref i2) ∧ (∃ x y, IsTupOf2 h TO x y) ∧ ItK k1 h i1 a i ∧ ItK k2 h i2 b i) where
  mem := List.mem_cons_self ..
  obj := by
    intro i h st c hc
    obtain ⟨s1, s2, ⟨x, y, s3⟩, s4, s5⟩ := st
    obtain ⟨o1, e1, d1⟩ := itK_ob s4
    obtain ⟨o2, e2, d2⟩ := itK_ob s5
    simp only [List.mem_cons, List.not_mem_nil, or_false] at hc
    rcases hc with rfl | rfl | rfl | rfl | rfl
    · exact ⟨_, s1, fun v q => nomatch q⟩
    · exact ⟨_, s2, fun v q => nomatch q⟩
    · exact ⟨_, s3, fun v q => nomatch q⟩
    · exact ⟨o1, e1, d1⟩
    · exact ⟨o2, e2, d2⟩
  keep := by
    rintro i h h' ⟨s1, s2, ⟨x, y, s3⟩, s4, s5⟩ kp
    exact ⟨kp _ (by simp) _ s1, kp _ (by simp) _ s2, ⟨x, y, kp _ (by simp) _ s3⟩, itK_at s4 (kp _ (by simp)), itK_at s5 (kp _ (by simp))⟩
  item := by
    intro X hP hw hK hc i pins s σ H E I hf st hg
    subst hP hw hK
    obtain ⟨s1, s2, ⟨x0, y0, s3⟩, s4, s5⟩ := st
    obtain ⟨xs, ys, x, y, q1, q2, g1, g2⟩ := hg
    obtain ⟨us, r1, m1⟩ := sqK_told I q1
    obtain ⟨ws, r2, m2⟩ := sqK_told I q2
    obtain ⟨u, hu, ru⟩ := r1.get g1
    obtain ⟨v, hv, rv⟩ := r2.get g2
    have lu : i < us.length := (List.getElem?_eq_some_iff.mp hu).1
    have lv : i < ws.length := (List.getElem?_eq_some_iff.mp hv).1
    have zl : z < s.heap.objs.size := Heap.lt_size s1
    have hh : X.A.in1.handled = none := I.ok.hd hc
    refine wpAny_pyNext_zipD2_item D (drawsK hh k1 i1 a n1 us.toArray) (drawsK hh k2 i2 b n2 ws.toArray) s1 s2 s3 ⟨s4, m1⟩ ⟨s5, m2⟩ (by simpa using lu) (by simpa using lv) fun x1 x2 h' tk p1 p2 z1 z2 t1 t2 z3 hsz hk => ?_
    have e1 : x1 = u := by
      have : us[i]? = some x1 := by simpa using p1
      exact Option.some.inj (this.symm.trans hu)
    have e2 : x2 = v := by
      have : ws[i]? = some x2 := by simpa using p2
      exact Option.some.inj (this.symm.trans hv)
    subst e1 e2
    refine ⟨_, rfl, wpAny_letOwnedTupleGo_zip (s := { s with heap := h', toks := tk }) z1 fun h2 z4 sb => ?_⟩
    have nz : s.heap.objs.size ≠ z := Nat.ne_of_gt zl
    have hp : h2.get? s.heap.objs.size = some { cls := .type "tuple", data := .seq #[x1, x2] } := (sb.2 _ nz).trans z3
    have ob : ObjOk X.prog X.w (upd H s.heap.objs.size (.frz (tObj [x1, x2]) (.tup [x, y]))) h2 s.heap.objs.size (.frz (tObj [x1, x2]) (.tup [x, y])) := by
      refine ⟨hp, ?_, [x1, x2], .cons ru (.cons rv .nil), ⟨_, hp, rfl, _, rfl⟩⟩
      show 2 ≤ sizeLine
      decide
    have I2 : Inv X pins σ (upd H s.heap.objs.size (.frz (tObj [x1, x2]) (.tup [x, y]))) { s with heap := h2, toks := tk } := by
      refine I.turnedNew (ch := [z, TI, TO, i1, i2]) (fun c o hb q => ?_) hf (Nat.le_refl _) ob
      simp only [List.mem_cons, List.not_mem_nil, or_false, not_or] at hb
      exact (sb.2 c hb.1).trans (hk c o hb.1 hb.2.2.1 hb.2.2.2.1 hb.2.2.2.2 q)
    refine ⟨.ref s.heap.objs.size, _, I2, rfl, ⟨_, x, y, rfl, I.hok.fresh (Nat.le_refl _), ⟨tObj [x1, x2], rfl, rfl⟩, fun l hl => by rw [sqK_inj I hl q1]; exact g1, fun l hl => by rw [sqK_inj I hl q2]; exact g2⟩, ⟨z4, ?_, ⟨x1, x2, ?_⟩, ?_, ?_⟩, fun c hcm => ?_⟩
    · exact (sb.2 _ D.TIz).trans (hk _ _ D.TIz D.TITO D.TIi1 D.TIi2 s2)
    · exact (sb.2 _ D.TOz).trans z2
    · exact itK_at t1.1 fun o q => (sb.2 _ fun e => D.zf1 (by rw [← e]; simp)).trans q
    · exact itK_at t2.1 fun o q => (sb.2 _ fun e => D.zf2 (by rw [← e]; simp)).trans q
    · have hlt : c < s.heap.objs.size := by
        obtain ⟨o1, e1, _⟩ := itK_ob s4
        obtain ⟨o2, e2, _⟩ := itK_ob s5
        simp only [List.mem_cons, List.not_mem_nil, or_false] at hcm
        rcases hcm with rfl | rfl | rfl | rfl | rfl
        · exact zl
        · exact Heap.lt_size s2
        · exact Heap.lt_size s3
        · exact Heap.lt_size e1
        · exact Heap.lt_size e2
      rw [upd_ne (Nat.ne_of_lt hlt)]
      exact (hf c hcm).1
  done := by
    intro X hP hw hK hc i pins s σ H E I hf st hg
    subst hP hw hK
    obtain ⟨s1, s2, ⟨x0, y0, s3⟩, s4, s5⟩ := st
    obtain ⟨xs, ys, q1, q2, g1, g2, g3⟩ := hg
    obtain ⟨us, r1, m1⟩ := sqK_told I q1
    obtain ⟨ws, r2, m2⟩ := sqK_told I q2
    have l1 := r1.length
    have l2 := r2.length
    have hh : X.A.in1.handled = none := I.ok.hd hc
    refine wpAny_pyNext_zipD2_end D (drawsK hh k1 i1 a n1 us.toArray) (drawsK hh k2 i2 b n2 ws.toArray) s1 s2 s3 ⟨s4, m1⟩ ⟨s5, m2⟩ (by simp; omega) (by simp; omega) (by simp; omega) fun h' tk hk => ⟨rfl, ?_⟩
    refine I.turnedL (ch := [z, TI, TO, i1, i2]) (fun c o hb q => ?_) hf
    simp only [List.mem_cons, List.not_mem_nil, or_false, not_or] at hb
    exact hk c o hb.1 hb.2.2.1 hb.2.2.2.1 hb.2.2.2.2 q
  self := fun A i s Q E st h => wpAny_pyIter_zip st.1 h
/-- zip(x, y) walked -/
def iZipB (K : PySem.W.Frag) (ta : TA) : TI := fun σ H R => ta σ H fun vs H1 => ∃ a b, vs = [.ref a, .ref b] ∧ ∃ k1 k2 xs ys, SqK K k1 H1 a xs ∧ SqK K k2 H1 b ys ∧ R (ItZ K k1 k2 a b) H1
theorem pi_zipB {X : Cx} {e e2 : Expr} {ta : TA} {p pos tpos : Pos} {elts : List Expr} {kk : Nat} (hg : Gl X "zip") (hm : X.mg "zip" = none) (ha : PA X [e, e2] ta)
    (hs : starEach [e, e2] X.env = (false, eval e X.env) :: starEach [e2] X.env := by rfl) (hpl : (backTo pos (starEach [e2] X.env)).any (·.1) = false := by rfl) :
    PI X (.Tuple elts kk tpos) (.Call (.Name "zip" p) [e, e2] [] pos) (iZipB X.K ta) := ⟨fun pins s σ H R I h => by
  refine Call_ (ld_blt I hg hm PyProof.Rows.boot_zip (PyProof.Rows.callWith_type1 (thn (ha.run pos pins s σ H _ I h) ?_) hs hpl))
  rintro us s1 ⟨vs, H1, I1, r1, a, b, rfl, k1, k2, xs, ys, q1, q2, q⟩
  cases r1 with
  | cons r r1 =>
    cases r1 with
    | cons r' r1 =>
      cases r1; cases r; cases r'
      obtain ⟨ua, ra, ma⟩ := sqK_told I1 q1
      obtain ⟨ub, rb, mb⟩ := sqK_told I1 q2
      have la := hsK_lt ma
      have lb := hsK_lt mb
      refine zip_begins2 (beginsK k1 a ua.toArray) (beginsK k2 b ub.toArray) ma mb fun h' z1 z2 z3 z4 z5 z6 hk => wpAny_pyIter_zip z1 ?_
      have I2 : Inv X pins σ H1 { s1 with heap := h' } := I1.kept (t' := s1.toks) hk
      refine ⟨s1.heap.objs.size + 4, [s1.heap.objs.size + 4, s1.heap.objs.size + 2, s1.heap.objs.size + 3, s1.heap.objs.size, s1.heap.objs.size + 1], _, _, H1, rfl, I2,
        turnZ (zip_sep2 (fp1 := [a]) (fp2 := [b]) (by simpa using la) (by simpa using lb)) (Nat.ne_of_lt la) (Nat.ne_of_lt (Nat.lt_succ_of_lt lb)), ⟨z1, z2, ⟨_, _, z3⟩, itK_new z4, itK_new z5⟩, fun c hc => ?_, q⟩
      have hle : s1.heap.objs.size ≤ c := by
        simp only [List.mem_cons, List.not_mem_nil, or_false] at hc
        rcases hc with rfl | rfl | rfl | rfl | rfl
        · exact Nat.le_add_right _ _
        · exact Nat.le_add_right _ _
        · exact Nat.le_add_right _ _
        · exact Nat.le_refl _
        · exact Nat.le_add_right _ _
      exact I1.fpOk hle (I1.hok.fresh hle)⟩
section
variable {K : PySem.W.Frag} {I H : Hp} {a b : Addr} {vs ws : List V} {ds es : List D}
def zipL (ds es : List D) : List D := (ds.zip es).map fun p => .tup [p.1, p.2]
theorem ex_k {I J : Hp} (e : Ex I J) {a : Addr} {xs : List V} : ∀ {k : Kd}, SqK K k I a xs → SqK K k J a xs
  | .l, h => ex_l e h
  | .t, h => ex_t e h
theorem serves_zip {k1 k2 : Kd} (h1 : SqK K k1 I a vs) (h2 : RdA K I vs ds) (g1 : SqK K k2 I b ws) (g2 : RdA K I ws es) : Serves K (ItZ K k1 k2 a b) (zipL ds es) I := by
  have l1 := h2.length
  have l2 := g2.length
  have ln : (zipL ds es).length = min vs.length ws.length := by unfold zipL; rw [List.length_map, List.length_zip, l1, l2]
  unfold Serves
  rw [ln]
  refine ⟨fun i H' hi e => ?_, fun H' e => ?_, fun i H' x H'' hi e y => ?_⟩
  · have a1 : i < vs.length := by omega
    have a2 : i < ws.length := by omega
    exact ⟨vs, ws, vs[i], ws[i], ex_k e h1, ex_k e g1, by simp [a1], by simp [a2]⟩
  · exact ⟨vs, ws, ex_k e h1, ex_k e g1, by omega, by omega, by omega⟩
  · obtain ⟨T, u, v, rfl, hT, ⟨ob, hd, rfl⟩, y1, y2⟩ := y
    obtain ⟨d1, p1, p2⟩ := h2.getV (y1 _ (ex_k e h1))
    obtain ⟨d2, p3, p4⟩ := g2.getV (y2 _ (ex_k e g1))
    have iT : I T = none := Evl.fresh_back e hT
    refine ⟨.tup [d1, d2], ?_, .inr ⟨T, _, hT, rfl, .tup (.new hd) (.cons (p2.mono (Ex.new iT)) (.cons (p4.mono (Ex.new iT)) .nil))⟩⟩
    unfold zipL
    rw [List.getElem?_map, (List.getElem?_zip_eq_some (z := (d1, d2))).mpr ⟨p1, p3⟩]
    rfl
end
section
variable {X : Cx} {W : WX} {A H0 : Hp} {a b c e tg : Expr} {fa fb fc f : F} {pos : Pos} {tl : TE}
/-- what zip tells -/
def zipD (x y : D) : R D := (seqZ x).bind fun x => (seqZ y).bind fun y => match x, y with
  | .lst l, .lst m => .ok (.lst (zipL l m))
  | _, _ => .no
where seqZ : D → R D
  | .lst l => .ok (.lst l)
  | .tup l => .ok (.lst l)
  | _ => .no
theorem seqK_of {K : PySem.W.Frag} {I : Hp} {v : V} {d : D} {l : D} (h : Rd K I v d) (e : zipD.seqZ d = .ok l) : ∃ a k vs ds, v = .ref a ∧ l = .lst ds ∧ SqK K k I a vs ∧ RdA K I vs ds := by
  cases h with
  | lst h1 h2 => cases e; exact ⟨_, .l, _, _, rfl, rfl, .inl (.inl h1), h2⟩
  | tup h1 h2 => cases e; exact ⟨_, .t, _, _, rfl, rfl, h1.sq, h2⟩
  | _ => cases e
theorem seqZ_or (d : D) : (∃ l, zipD.seqZ d = .ok (.lst l)) ∨ zipD.seqZ d = .no := by cases d <;> first | exact .inl ⟨_, rfl⟩ | exact .inr rfl
theorem vi_zip {elts : List Expr} {kk : Nat} {tpos p : Pos} (hm : X.mg "zip" = none) (ha : VE X W A H0 a fa) (hb : VE X W A H0 b fb) (hg : Gl X "zip" := by rfl)
    (hs : starEach [a, b] X.env = (false, eval a X.env) :: starEach [b] X.env := by rfl) (hs2 : starEach [b] X.env = (false, eval b X.env) :: starEach [] X.env := by rfl) (hpl : (backTo pos (starEach [b] X.env)).any (·.1) = false := by rfl) :
    VI X W A H0 (.Tuple elts kk tpos) (.Call (.Name "zip" p) [a, b] [] pos) (f2 zipD fa fb) := pi_imp (pi_zipB hg hm (va_st ha (va_st hb va_nil hs2) hs) hs hpl) fun σ H R ⟨env, I, rl, q⟩ => ⟨env, I, rl, by
  have q0 : PostI X.K W σ I H ((fa env).bind fun x => (fb env).bind fun y => zipD x y) R := q
  show PostA X.K W σ [true, true] I H ((fa env).bind fun x => ((fb env).bind fun y => BW.R.ok [y]).bind fun y => .ok (x :: y)) _
  cases h1 : fa env with
  | no => rw [h1] at q0; exact q0.elim
  | er n p => rw [h1] at q0; exact q0
  | ok x =>
    rw [h1] at q0
    have q0 : PostI X.K W σ I H ((fb env).bind fun y => zipD x y) R := q0
    cases h2 : fb env with
    | no => rw [h2] at q0; exact q0.elim
    | er n p => rw [h2] at q0; exact q0
    | ok y =>
      rw [h2] at q0
      have q0 : PostI X.K W σ I H ((zipD.seqZ x).bind fun x => (zipD.seqZ y).bind fun y => match x, y with
        | .lst l, .lst m => .ok (.lst (zipL l m))
        | _, _ => .no) R := q0
      intro vs I' H' g ar
      cases ar with
      | st r1 ar =>
        cases ar with
        | st r2 ar =>
          cases ar
          rcases seqZ_or x with ⟨l, hx⟩ | hx
          · rcases seqZ_or y with ⟨m, hy⟩ | hy
            · rw [hx, hy] at q0
              obtain ⟨p1, k1, us, ds, rfl, e1, m1, m2⟩ := seqK_of r1 hx
              obtain ⟨p2, k2, ws, es, rfl, e2, m3, m4⟩ := seqK_of r2 hy
              cases e1; cases e2
              exact ⟨p1, p2, rfl, k1, k2, us, ws, ex_k g.ih m1, ex_k g.ih m3, q0 _ I' H' g (serves_zip m1 m2 m3 m4)⟩
            · rw [hx, hy] at q0; exact q0.elim
          · rw [hx] at q0; exact q0.elim⟩
end
end BW
/-! BCore28: count of a list or a tuple; dicts with whole numbers for keys. -/
namespace BW
open PySem PySem.Spec PyProof.Rows L2
open Evl (Ex Ex.refl Ex.trans Ex.new ex_rd ex_l ex_t)
section
variable {X : Cx} {W : WX} {A H0 : Hp} {fr : Bool} {a b e o i : Expr} {fa fb f g1 g2 : F} {pos : Pos}
/-- one of two rules, by the value -/
theorem ve_alt (h1 : VE X W A H0 e g1) (h2 : VE X W A H0 e g2) (hf : ∀ env, f env = g1 env ∨ f env = g2 env ∨ f env = .no) : VE X W A H0 e f := ⟨fun pins s σ H Q I ⟨env, J, r, q⟩ => by
  rcases hf env with k | k | k
  · rw [k] at q; exact h1.run pins s σ H Q I ⟨env, J, r, q⟩
  · rw [k] at q; exact h2.run pins s σ H Q I ⟨env, J, r, q⟩
  · rw [k] at q; exact q.elim⟩
def cntTD : D → D → R D
  | .tup l, x => if x.sc.isSome && allSc l then .ok (.int (l.countP fun y => eqS y x : Nat)) else .no
  | _, _ => .no
def tpD (d : D) : R D := match d with
  | .tup l => .ok (.tup l)
  | _ => .no
theorem ve_cntT {apos cpos : Pos} (ha : VE X W A H0 a fa) (hb : VB X W A H0 b fb) (hbase : attributeBase a "count" X.env (eval a X.env) = eval a X.env := by rfl)
    (hfew : ((backTo cpos (starEach [b] X.env)).all (fun x => !x.1) && (backToKw cpos (keywordEach [] X.env)).all (fun x => x.1.isSome) && decide ([b].length + ([] : List Keyword).length + (if ([] : List Keyword).isEmpty then 0 else 1) < 30)) = true := by rfl)
    (hline : (apos.endLine == cpos.line) = true := by rfl) (hs : starEach [b] X.env = (false, eval b X.env) :: starEach [] X.env := by rfl) (hplain : (backTo cpos (starEach [] X.env)).any (·.1) = false := by rfl) :
    VE X W A H0 (.Call (.Attribute a "count" apos) [b] [] cpos) (f2 cntTD (f1 tpD fa) fb) :=
  pe_imp (pe_tm PySem.F.plainAttrs_tuple PySem.F.slot_tuple_count PySem.F.type_tuple_count mt_cntT ha (pa_cons hb pa_nil hs) hbase hfew hline hs hplain) fun σ H Q ⟨env, I, rl, q⟩ => ⟨env, I, rl, by
    have q0 : PostE X.K W σ I H (((fa env).bind tpD).bind fun x => (fb env).bind fun y => cntTD x y) Q := q
    cases hf : fa env with
    | er c p => rw [hf] at q0; exact q0
    | no => rw [hf] at q0; exact q0.elim
    | ok d =>
      rw [hf] at q0
      cases d with
      | tup l =>
        have q1 : PostE X.K W σ I H ((fb env).bind fun y => cntTD (.tup l) y) Q := q0
        intro v I1 H1 gg1 k1
        obtain ⟨p, vs, rfl, ⟨ob, hd, h1⟩, h2⟩ := k1.tup_inv
        have hH := gg1.ih _ _ h1
        refine ⟨⟨p, ob, vs, rfl, hH, hd⟩, env, I1, rl.grow gg1, ?_⟩
        cases hs2 : fb env with
        | er c p => rw [hs2] at q1; exact fun cls od I2 H2 gg2 k2 => q1 cls od I2 H2 (gg1.trans gg2) k2
        | no => rw [hs2] at q1; exact q1.elim
        | ok y =>
          rw [hs2] at q1
          have q2 : PostE X.K W σ I H (if y.sc.isSome && allSc l then R.ok (.int (l.countP fun z => eqS z y : Nat)) else .no) Q := q1
          intro w I2 H2 gg2 k2
          by_cases hc : (y.sc.isSome && allSc l) = true
          · rw [if_pos hc] at q2
            obtain ⟨c1, c2⟩ := Bool.and_eq_true_iff.mp hc
            refine ⟨p, vs, w, rfl, rfl, .inl (.inr ⟨ob, gg2.h _ _ hH⟩), (sc_flat k2 c1).1, sc_flats h2 c2, ?_⟩
            rw [sc_count k2 c1 h2 c2]
            exact q2 _ I2 H2 (gg1.trans gg2) .int
          · rw [if_neg hc] at q2; exact q2.elim
      | _ => exact q0.elim⟩
/-- count of a list or a tuple -/
def fCnt (fa fb : F) : F := fun env => (fa env).bind fun
  | .lst l => (fb env).bind fun y => cntD (.lst l) y
  | .tup l => (fb env).bind fun y => cntTD (.tup l) y
  | _ => .no
theorem ve_cnt {apos cpos : Pos} (ha : VE X W A H0 a fa) (hb : VB X W A H0 b fb) (hbase : attributeBase a "count" X.env (eval a X.env) = eval a X.env := by rfl)
    (hfew : ((backTo cpos (starEach [b] X.env)).all (fun x => !x.1) && (backToKw cpos (keywordEach [] X.env)).all (fun x => x.1.isSome) && decide ([b].length + ([] : List Keyword).length + (if ([] : List Keyword).isEmpty then 0 else 1) < 30)) = true := by rfl)
    (hline : (apos.endLine == cpos.line) = true := by rfl) (hs : starEach [b] X.env = (false, eval b X.env) :: starEach [] X.env := by rfl) (hplain : (backTo cpos (starEach [] X.env)).any (·.1) = false := by rfl) :
    VE X W A H0 (.Call (.Attribute a "count" apos) [b] [] cpos) (fCnt fa fb) :=
  ve_alt (ve_cntL ha hb hbase hfew hline hs hplain) (ve_cntT ha hb hbase hfew hline hs hplain) fun env => by
    unfold fCnt f2 fLs f1
    cases fa env with
    | ok d => cases d <;> first | exact .inl rfl | exact .inr (.inl rfl) | exact .inr (.inr rfl)
    | er c p => exact .inl rfl
    | no => exact .inr (.inr rfl)
end
/-! ### dicts, their keys whole numbers -/
def lookD : List Int → List D → Int → Option D
  | k :: ks, d :: ds, x => if k = x then some d else lookD ks ds x
  | _, _, _ => none
def replD : List Int → List D → Int → D → List D
  | k :: ks, d :: ds, x, e => (if k = x then e else d) :: replD ks ds x e
  | _, _, _, _ => []
theorem look_some {K : PySem.W.Frag} {I : Hp} : ∀ {kvs : List (Key × V)} {ks : List Int} {ds : List D}, kvs.map (·.1) = ks.map Sum.inl → RdA K I (kvs.map (·.2)) ds → ∀ {x : Int} {d : D}, lookD ks ds x = some d → ∃ v, valV kvs (.inl x) = some v ∧ Rd K I v d
  | [], [], _, _, _, x, d, h => by cases h
  | [], _ :: _, _, e, _, _, _, _ => by cases e
  | _ :: _, [], _, e, _, _, _, _ => by cases e
  | (k, v) :: kvs, k' :: ks, _, e, .cons (d := d') h q, x, d, h0 => by
    injection e with e1 e2
    have e1 : k = .inl k' := e1
    subst e1
    have h0 : (if k' = x then some d' else lookD ks _ x) = some d := h0
    by_cases hk : k' = x
    · rw [if_pos hk] at h0
      cases h0
      exact ⟨v, valV_pos (by rw [hk]), h⟩
    · rw [if_neg hk] at h0
      obtain ⟨w, h1, h2⟩ := look_some e2 q h0
      exact ⟨w, by rw [valV_neg (fun z => hk (Sum.inl.inj z))]; exact h1, h2⟩
theorem look_none {K : PySem.W.Frag} {I : Hp} : ∀ {kvs : List (Key × V)} {ks : List Int} {ds : List D}, kvs.map (·.1) = ks.map Sum.inl → RdA K I (kvs.map (·.2)) ds → ∀ {x : Int}, lookD ks ds x = none → valV kvs (.inl x) = none
  | [], [], _, _, _, x, h => rfl
  | [], _ :: _, _, e, _, _, _ => by cases e
  | _ :: _, [], _, e, _, _, _ => by cases e
  | (k, v) :: kvs, k' :: ks, _, e, .cons (d := d') h q, x, h0 => by
    injection e with e1 e2
    have e1 : k = .inl k' := e1
    subst e1
    have h0 : (if k' = x then some d' else lookD ks _ x) = none := h0
    by_cases hk : k' = x
    · rw [if_pos hk] at h0
      cases h0
    · rw [if_neg hk] at h0
      rw [valV_neg (fun z => hk (Sum.inl.inj z))]
      exact look_none e2 q h0
def putKs (ks : List Int) (x : Int) : List Int := if ks.contains x then ks else ks ++ [x]
def putDs (ks : List Int) (ds : List D) (x : Int) (e : D) : List D := if ks.contains x then replD ks ds x e else ds ++ [e]
theorem any_keys {x : Int} : ∀ {kvs : List (Key × V)} {ks : List Int}, kvs.map (·.1) = ks.map Sum.inl → (kvs.any fun kv => decide (kv.1 = Sum.inl x)) = ks.contains x
  | [], [], _ => rfl
  | [], _ :: _, e => by cases e
  | _ :: _, [], e => by cases e
  | (k, v) :: kvs, k' :: ks, e => by
    injection e with e1 e2
    have e1 : k = .inl k' := e1
    subst e1
    rw [List.any_cons, any_keys e2, List.contains_cons]
    congr 1
    by_cases h : k' = x
    · subst h; simp
    · have h2 : ¬ x = k' := fun z => h z.symm
      simp [h, h2]
theorem put_rd {K : PySem.W.Frag} {I : Hp} {kvs : List (Key × V)} {ks : List Int} {ds : List D} {x : Int} {v : V} {d : D} (e : kvs.map (·.1) = ks.map Sum.inl) (h : RdA K I (kvs.map (·.2)) ds) (hv : Rd K I v d) :
    (putK kvs (.inl x) v).map (·.1) = (putKs ks x).map Sum.inl ∧ RdA K I ((putK kvs (.inl x) v).map (·.2)) (putDs ks ds x d) := by
  unfold putK putKs putDs
  rw [any_keys e]
  by_cases hc : ks.contains x = true
  · rw [if_pos hc, if_pos hc, if_pos hc]
    clear hc
    revert ks ds
    induction kvs with
    | nil =>
      intro ks ds e h
      cases ks with
      | nil => exact ⟨rfl, .nil⟩
      | cons => cases e
    | cons p kvs ih =>
      intro ks ds e h
      cases ks with
      | nil => cases e
      | cons k' ks =>
        injection e with e1 e2
        cases h with
        | cons h q =>
          obtain ⟨i1, i2⟩ := ih e2 q
          obtain ⟨k, u⟩ := p
          have e1 : k = .inl k' := e1
          subst e1
          by_cases hk : k' = x
          · subst hk
            refine ⟨?_, ?_⟩
            · rw [List.map_cons, List.map_cons, if_pos rfl, List.map_cons, i1]
            · rw [List.map_cons, List.map_cons, if_pos rfl]
              show RdA K I _ ((if k' = k' then d else _) :: replD ks _ k' d)
              rw [if_pos rfl]
              exact .cons hv i2
          · have hk2 : ¬ ((Sum.inl k' : Key) = Sum.inl x) := fun z => hk (Sum.inl.inj z)
            refine ⟨?_, ?_⟩
            · rw [List.map_cons, List.map_cons, if_neg hk2, List.map_cons, i1]
            · rw [List.map_cons, List.map_cons, if_neg hk2]
              show RdA K I _ ((if k' = x then d else _) :: replD ks _ x d)
              rw [if_neg hk]
              exact .cons h i2
  · rw [if_neg hc, if_neg hc, if_neg hc]
    exact ⟨by rw [List.map_append, List.map_append, e]; rfl, by rw [List.map_append]; exact h.snoc hv⟩
/-! what a name of a dict tells -/
def fK (i : Nat) : F := fun env => match env[i]? with
  | some (.md ks l) => .ok (.dct ks l)
  | some (.im (.dct ks l)) => .ok (.dct ks l)
  | _ => .no
def PostD (K : PySem.W.Frag) (W : WX) (σ : L2.St) (I H : Hp) (r : R D) (Q : VK) : Prop := match r with
  | .ok (.dct ks ds) => ∀ a kvs I' H', Grow I H I' H' → L2.Rd H' a (.dK kvs) → kvs.map (·.1) = ks.map Sum.inl → RdA K I' (kvs.map (·.2)) ds → Q (.ref a) H'
  | .er c p => ∀ cls od I' H', Grow I H I' H' → ErrIs K c p cls od I' → W cls od σ H'
  | _ => False
def rdD (K : PySem.W.Frag) (W : WX) (A H0 : Hp) (f : F) : TE := fun σ H Q => ∃ env I, Rel K A H0 env σ I H ∧ PostD K W σ I H (f env) Q
def VD (X : Cx) (W : WX) (A H0 : Hp) (e : Expr) (f : F) : Prop := PE X e (rdD X.K W A H0 f)
section
variable {X : Cx} {W : WX} {A H0 : Hp} {fr : Bool} {a b e o ie : Expr} {fa fb fk f : F} {pos : Pos} {g : G} {rest : List Stmt}
theorem vd_var (i : Nat) {x : Str} (hN : X.N[i]? = some x := by rfl) (hv : Vis X.env.scope x := by first | exact Or.inl rfl | exact Or.inr (Or.inl rfl) | exact Or.inr (Or.inr rfl)) (hd : (x == ("__debug__" : Str)) = false := by decide)
    (hcd : (x == ("__classdict__" : Str)) = false := by decide) : VD X W A H0 (.Name x pos) (fK i) := pe_imp (pe_var hN hv hd hcd) fun σ H Q ⟨env, I, r, q⟩ => by
  unfold fK at q
  cases he : env[i]? with
  | none => rw [he] at q; exact q.elim
  | some s =>
    rw [he] at q
    cases s with
    | md ks l =>
      obtain ⟨p, kvs, h1, h2, h3, h4, h5, h6⟩ := r.md i ks l he
      exact ⟨.ref p, h1, q p kvs I H (Grow.refl r.g.ih) (.inl h2) h5 h6⟩
    | im d =>
      obtain ⟨v, h1, h2⟩ := r.im i d he
      cases d with
      | dct ks l =>
        cases h2 with
        | dct k1 k2 k3 => exact ⟨_, h1, q _ _ I H (Grow.refl r.g.ih) (.inr ⟨_, r.g.ih _ _ k1⟩) k2 k3⟩
      | _ => exact q.elim
    | _ => exact q.elim
theorem vd_of_ve (h : VE X W A H0 e f) : VD X W A H0 e f := pe_imp h fun σ H Q ⟨env, I, r, q⟩ => ⟨env, I, r, by
  cases hf : f env with
  | ok d =>
    rw [hf] at q
    cases d with
    | dct ks ds =>
      intro v I' H' gg k
      cases k with
      | dct h1 h2 h3 => exact q _ _ I' H' gg (.inr ⟨_, gg.ih _ _ h1⟩) h2 h3
    | _ => exact q.elim
  | er c p => rw [hf] at q; exact q
  | no => rw [hf] at q; exact q.elim⟩
/-! k in d -/
def dinD : D → D → R D
  | .int x, .dct ks l => .ok (.bl (lookD ks l x).isSome)
  | _, _ => .no
def dninD (x y : D) : R D := (dinD x y).bind notD
theorem isD_int (d : D) : (∃ x, d = .int x) ∨ ∀ y, dinD d y = .no := by cases d <;> first | exact .inl ⟨_, rfl⟩ | exact .inr fun y => rfl
theorem din_run (ha : VB X W A H0 ie fk) {σ : L2.St} {H : Hp} {Q : VK} (k : Bool → Bool) (q : ∃ env I, Rel X.K A H0 env σ I H ∧ PostE X.K W σ I H ((fk env).bind fun x => (fa env).bind fun y => (dinD x y).bind fun | .bl c => .ok (.bl (k c)) | _ => .no) Q) :
    rdB X.K W A H0 fk σ H fun y H1 => rdD X.K W A H0 fa σ H1 fun x H2 => ∃ p ov, x = .ref p ∧ DGet H2 p y ov ∧ Q (.bl (k ov.isSome)) H2 := by
  obtain ⟨env, I, rl, q⟩ := q
  refine ⟨env, I, rl, ?_⟩
  cases hk : fk env with
  | er c p => rw [hk] at q; exact q
  | no => rw [hk] at q; exact q.elim
  | ok x =>
    rw [hk] at q
    have q1 : PostE X.K W σ I H ((fa env).bind fun y => (dinD x y).bind fun | .bl c => .ok (.bl (k c)) | _ => .no) Q := q
    intro v I1 H1 gg1 k1
    refine ⟨env, I1, rl.grow gg1, ?_⟩
    cases hf : fa env with
    | er c p => rw [hf] at q1; exact fun cls od I2 H2 gg2 k2 => q1 cls od I2 H2 (gg1.trans gg2) k2
    | no => rw [hf] at q1; exact q1.elim
    | ok y =>
      rw [hf] at q1
      have q2 : PostE X.K W σ I H ((dinD x y).bind fun | .bl c => .ok (.bl (k c)) | _ => .no) Q := q1
      cases y with
      | dct ks l =>
        intro p kvs I2 H2 gg2 h1 h2 h3
        rcases isD_int x with ⟨n, rfl⟩ | hn
        · have q3 : PostE X.K W σ I H (.ok (.bl (k (lookD ks l n).isSome))) Q := q2
          rw [k1.int_inv]
          refine ⟨p, valV kvs (.inl n), rfl, .inl ⟨kvs, .inl n, h1, rfl, rfl⟩, ?_⟩
          have e : (valV kvs (.inl n)).isSome = (lookD ks l n).isSome := by
            cases hl : lookD ks l n with
            | none => rw [look_none h2 h3 hl]; rfl
            | some d =>
              obtain ⟨w, h4, _⟩ := look_some h2 h3 hl
              rw [h4]; rfl
          rw [e]
          exact q3 _ I2 H2 (gg1.trans gg2) .bl
        · rw [hn] at q2; exact q2.elim
      | _ =>
        have : ∀ y, (∀ ks l, y ≠ .dct ks l) → dinD x y = .no := fun y hy => by
          cases x <;> first | rfl | (cases y <;> first | rfl | exact absurd rfl (hy _ _))
        rw [this _ (fun _ _ z => by cases z)] at q2
        exact q2.elim
theorem ve_din (hu : X.A.units + 64 < cLine) (ha : VB X W A H0 ie fk) (hb : VD X W A H0 o fa) (hm : behindInMarks .In o = false := by rfl) : VE X W A H0 (.Compare ie [.In] [o] pos) (f2 dinD fk fa) := pe_imp (pe_cmp (pc_din (by omega) ha hb) hm) fun σ H Q ⟨env, I, rl, q⟩ => din_run ha id ⟨env, I, rl, by
  have e : ∀ x y, ((dinD x y).bind fun | .bl c => R.ok (D.bl (id c)) | _ => .no) = dinD x y := fun x y => by
    cases x <;> first | rfl | (cases y <;> rfl)
  simp only [e]
  exact q⟩
theorem ve_dnin (hu : X.A.units + 64 < cLine) (ha : VB X W A H0 ie fk) (hb : VD X W A H0 o fa) (hm : behindInMarks .NotIn o = false := by rfl) : VE X W A H0 (.Compare ie [.NotIn] [o] pos) (f2 dninD fk fa) := pe_imp (pe_cmp (pc_dnotin (by omega) ha hb) hm) fun σ H Q ⟨env, I, rl, q⟩ => din_run ha (!·) ⟨env, I, rl, by
  have e : ∀ x y, ((dinD x y).bind fun | .bl c => R.ok (D.bl (!c)) | _ => .no) = dninD x y := fun x y => by
    unfold dninD
    cases x <;> first | rfl | (cases y <;> rfl)
  simp only [e]
  exact q⟩
theorem vt_din (hu : X.A.units + 64 < cLine) (ha : VB X W A H0 ie fk) (hb : VD X W A H0 o fa) (hm : behindInMarks .In o = false := by rfl) : VT X W A H0 (.Compare ie [.In] [o] pos) (f2 dinD fk fa) := pt_imp (pt_cmp (pc_din (by omega) ha hb) hm) fun σ H Q ⟨env, I, rl, q⟩ => din_run (Q := fun x H' => ∃ k, x = .bl k ∧ Q k H') ha id ⟨env, I, rl, by
  have e : ∀ x y, ((dinD x y).bind fun | .bl c => R.ok (D.bl (id c)) | _ => .no) = dinD x y := fun x y => by
    cases x <;> first | rfl | (cases y <;> rfl)
  simp only [e]
  exact post_te q⟩
theorem vt_dnin (hu : X.A.units + 64 < cLine) (ha : VB X W A H0 ie fk) (hb : VD X W A H0 o fa) (hm : behindInMarks .NotIn o = false := by rfl) : VT X W A H0 (.Compare ie [.NotIn] [o] pos) (f2 dninD fk fa) := pt_imp (pt_cmp (pc_dnotin (by omega) ha hb) hm) fun σ H Q ⟨env, I, rl, q⟩ => din_run (Q := fun x H' => ∃ k, x = .bl k ∧ Q k H') ha (!·) ⟨env, I, rl, by
  have e : ∀ x y, ((dinD x y).bind fun | .bl c => R.ok (D.bl (!c)) | _ => .no) = dninD x y := fun x y => by
    unfold dninD
    cases x <;> first | rfl | (cases y <;> rfl)
  simp only [e]
  exact post_te q⟩
/-! d[k] -/
def dgetD : D → D → R D
  | .dct ks l, .int x => match lookD ks l x with
    | some d => .ok d
    | none => .no
  | _, _ => .no
/-- a dict, or nothing -/
def dcD (d : D) : R D := match d with
  | .dct ks l => .ok (.dct ks l)
  | _ => .no
def fDc (f : F) : F := f1 dcD f
theorem ve_dget (hu : X.A.units + 64 < cLine) (hb : VD X W A H0 o fa) (ha : VB X W A H0 ie fk) (hs : NoSl ie := by exact fun _ _ => rfl) : VE X W A H0 (.Subscript o ie pos) (f2 dgetD (fDc fa) fk) := pe_imp (pe_dget (by omega) hb ha hs) fun σ H Q ⟨env, I, rl, q⟩ => ⟨env, I, rl, by
  have q0 : PostE X.K W σ I H (((fa env).bind dcD).bind fun x => (fk env).bind fun y => dgetD x y) Q := q
  cases hf : fa env with
  | er c p => rw [hf] at q0; exact q0
  | no => rw [hf] at q0; exact q0.elim
  | ok d =>
    rw [hf] at q0
    cases d with
    | dct ks l =>
      have q1 : PostE X.K W σ I H ((fk env).bind fun y => dgetD (.dct ks l) y) Q := q0
      intro p kvs I1 H1 gg1 h1 h2 h3
      refine ⟨env, I1, rl.grow gg1, ?_⟩
      cases hk : fk env with
      | er c p => rw [hk] at q1; exact fun cls od I2 H2 gg2 k2 => q1 cls od I2 H2 (gg1.trans gg2) k2
      | no => rw [hk] at q1; exact q1.elim
      | ok y =>
        rw [hk] at q1
        intro v I2 H2 gg2 k2
        cases y with
        | int n =>
          have q2 : PostE X.K W σ I H (match lookD ks l n with | some d => R.ok d | none => .no) Q := q1
          rw [k2.int_inv]
          cases hl : lookD ks l n with
          | none => rw [hl] at q2; exact q2.elim
          | some d =>
            rw [hl] at q2
            obtain ⟨w, h4, h5⟩ := look_some h2 h3 hl
            have h1' : L2.Rd H2 p (.dK kvs) := h1.elim (fun z => .inl (gg2.h _ _ z)) fun ⟨ob, z⟩ => .inr ⟨ob, gg2.h _ _ z⟩
            exact ⟨p, w, rfl, .inl ⟨kvs, .inl n, h1', rfl, h4.symm⟩, q2 w I2 H2 (gg1.trans gg2) (h5.mono gg2.i)⟩
        | _ => exact q1.elim
    | _ => exact q0.elim⟩
/-! ### statements -/
def gNewD (i : Nat) : G := fun env => .nx (env.set i (.md [] []))
def gNew1 (i : Nat) (fk f : F) : G := fun env => .of env (fk env) fun
  | .int x => .of env (f env) fun d => .nx (env.set i (.md [x] [d]))
  | _ => .no
/-- name[key] = value -/
def gPutD (i : Nat) (fk f : F) : G := fun env => match env[i]? with
  | some (.md ks l) => .of env (f env) fun d => .of env (fk env) fun
    | .int x => if ks.length < sizeLine then .nx (env.set i (.md (putKs ks x) (putDs ks l x d))) else .no
    | _ => .no
  | _ => .no
def gFrzD (i : Nat) : G := fun env => match env[i]? with
  | some (.md ks l) => .nx (env.set i (.im (.dct ks l)))
  | _ => .nx env
/-- no further change of a name's dict -/
theorem vss_frzD (i : Nat) (h : VSs X W A H0 fr rest g) : VSs X W A H0 fr rest (gSeq (gFrzD i) g) := ⟨fun pins s σ H Z inv ⟨env, I, r, q⟩ => by
  have q1 : PostS X.K W A H0 fr I Z (SR.sq (gFrzD i env) g) := q
  by_cases he : ∃ ks l, env[i]? = some (Sl.md ks l)
  · obtain ⟨ks, l, he⟩ := he
    have e : gFrzD i env = .nx (env.set i (.im (.dct ks l))) := by unfold gFrzD; rw [he]
    rw [e] at q1
    obtain ⟨p, kvs, h1, h2, h3, h4, h5, h6⟩ := r.md i ks l he
    obtain ⟨od, inv2⟩ := inv.lock h2 trivial
    obtain ⟨I', e', r'⟩ := r.freezeD od he h1 h2 h3 h4 h5 h6
    exact h.run pins s σ _ Z inv2 ⟨_, I', r', q1.mono e'⟩
  · have e : gFrzD i env = .nx env := by
      unfold gFrzD
      cases hi : env[i]? with
      | none => rfl
      | some sl => cases sl <;> first | rfl | exact absurd ⟨_, _, hi⟩ he
    rw [e] at q1
    exact h.run pins s σ H Z inv ⟨env, I, r, q1⟩⟩
theorem new_md {K : PySem.W.Frag} {i : Nat} {Z : Ends} {env : En} {σ : L2.St} {I H : Hp} {p : Addr} {kvs : List (Key × V)} {ks : List Int} {l : List D} (r : Rel K A H0 env σ I H) (hp : H p = some (.dK kvs)) (hi : I p = none) (h0 : H0 p = none) (hk : kvs.map (·.1) = ks.map Sum.inl) (h : RdA K I (kvs.map (·.2)) l)
    (ap : ∀ (j : Nat) (ls : List Int) (m : List D), env[j]? = some (Sl.md ls m) → σ[j]? ≠ some (some (V.ref p))) (ao : ∀ (j : Nat) (d : Ow), env[j]? = some (Sl.ow d) → ∃ v J, σ[j]? = some (some v) ∧ Own env σ I H0 H J ∧ J p = none ∧ RdW K I J v d) (q : PostS K W A H0 fr I Z (.nx (env.set i (.md ks l)))) : gName i (.ref p) σ H Z.nx :=
  q _ I H (r.set_md hi h0 hp hk h ap ao) (Ex.refl _)
end
end BW
/-! BCore29: statements over dicts; a dict walked; reversed. -/
namespace BW
open PySem PySem.Spec PyProof.Rows L2
open Evl (Ex Ex.refl Ex.trans Ex.new ex_rd ex_l ex_t)
section
variable {X : Cx} {W : WX} {A H0 : Hp} {fr : Bool} {a b e o ie tg : Expr} {fa fb fk f : F} {pos : Pos} {g : G}
theorem vs_newD (i : Nat) {x : Str} {pos' dp : Pos} (hN : X.N.Nodup) (hi : X.N[i]? = some x := by rfl) (hx : Loc X.env.scope x := by first | exact .inl rfl | exact .inr rfl) (hs : swapsWith (.Dict [] [] dp) (some (.Name x pos')) pos.line X.env = pure false := by rfl) (hf : X.fn x = true ∨ X.env.scope.names.lookup x = some .local := by first | exact .inl rfl | exact .inr rfl | assumption) :
    VS X W A H0 fr (.Assign [.Name x pos'] (.Dict [] [] dp) pos) (gNewD i) := ps_imp (ps_set hN hi hx pe_dnewK hs hf) fun Z σ H ⟨env, I, r, q⟩ => fun p hp => by
  have gr : Grow I H I (upd H p (.dK [])) := Grow.hid r.g.ih (Ex.new hp)
  refine new_md (kvs := []) (ks := []) (l := []) (r.grow gr) upd_same (Evl.fresh_back r.g.ih hp) (Evl.fresh_back r.g.h hp) rfl .nil (fun j ls m hj z => ?_) (r.owf gr hp) q
  obtain ⟨c, kvs, h1, h2, _⟩ := r.md j ls m hj
  rw [z] at h1
  cases h1
  rw [hp] at h2
  cases h2
theorem vs_new1 (i : Nat) {x : Str} {pos' dp : Pos} (hN : X.N.Nodup) (hk : VE X W A H0 ie fk) (hv : VE X W A H0 e f) (hi : X.N[i]? = some x := by rfl) (hx : Loc X.env.scope x := by first | exact .inl rfl | exact .inr rfl) (hs : swapsWith (.Dict [some ie] [e] dp) (some (.Name x pos')) pos.line X.env = pure false := by rfl) (hf : X.fn x = true ∨ X.env.scope.names.lookup x = some .local := by first | exact .inl rfl | exact .inr rfl | assumption) :
    VS X W A H0 fr (.Assign [.Name x pos'] (.Dict [some ie] [e] dp) pos) (gNew1 i fk f) := ps_imp (ps_set hN hi hx (pe_disp (pps_cons hk hv pps_nil) rfl rfl (by simp) (show 1 ≤ 15 by decide)) hs hf) fun Z σ H ⟨env, I, r, q⟩ => fun p hp => by
  have q0 : PostS X.K W A H0 fr I Z (.of env (fk env) fun
    | .int x => .of env (f env) fun d => .nx (env.set i (.md [x] [d]))
    | _ => .no) := q
  have gr : Grow I H I (upd H p (.dK [])) := Grow.hid r.g.ih (Ex.new hp)
  have ip : I p = none := Evl.fresh_back r.g.ih hp
  have h0p : H0 p = none := Evl.fresh_back r.g.h hp
  refine ⟨env, I, r.grow gr, of_run (r.grow gr) q0 fun dk vk I1 H1 e1 r1 g1 k1 q1 => ?_⟩
  cases dk <;> try (exact q1.elim)
  rename_i n
  refine ⟨env, I1, r1, of_run r1 q1 fun d v I2 H2 e2 r2 g2 k2 q2 => ?_⟩
  have gg := g1.trans g2
  have h2 : H2 p = some (.dK []) := gg.h _ _ upd_same
  have i2 : I2 p = none := grow_keep gg upd_same ip
  refine ⟨h2, [(.inl n, v)], by rw [k1.int_inv]; rfl, (show 1 ≤ 15 by decide), ?_⟩
  have no : ∀ (j : Nat) (ls : List Int) (m : List D), env[j]? = some (Sl.md ls m) → σ[j]? ≠ some (some (V.ref p)) := fun j ls m hj z => by
    obtain ⟨c, kvs, t1, t2, _⟩ := r.md j ls m hj
    rw [z] at t1
    cases t1
    rw [hp] at t2
    cases t2
  have r3 := r2.set_md (i := i) (kvs := []) (ks := []) (l := []) i2 h0p h2 rfl .nil no (r.owf (gr.trans gg) hp)
  by_cases hl : i < env.length
  · have he : (env.set i (Sl.md [] []))[i]? = some (Sl.md [] []) := List.getElem?_set_self hl
    have hs : (σ.set i (some (V.ref p)))[i]? = some (some (V.ref p)) := List.getElem?_set_self (by rw [r.len]; exact hl)
    have r4 := r3.chgD (kvs := [(.inl n, v)]) (ks' := [n]) (m := [d]) he hs rfl (.cons k2 .nil)
    rw [List.set_set] at r4
    exact q2 _ I2 _ r4 (Ex.refl _)
  · have hz : env.set i (Sl.md [n] [d]) = env := List.set_eq_of_length_le (by omega)
    have hz0 : env.set i (Sl.md [] []) = env := List.set_eq_of_length_le (by omega)
    have hq : X.N.length ≤ i → False := fun h => by rw [List.getElem?_eq_none h] at hi; cases hi
    rw [hz] at q2
    rw [hz0] at r3
    have r5 : Rel X.K A H0 env (σ.set i (some (V.ref p))) I2 (upd H2 p (.dK [(.inl n, v)])) := by
      refine ⟨⟨r3.g.i, fun b o z => ?_, fun b o z => ?_, r3.g.new⟩, r3.len, r3.im, fun j l hj => ?_, r3.bo, r3.ap, fun j ks l hj => ?_, r3.apd, fun j d hj => ?_⟩
      · by_cases y : b = p
        · subst y; rw [h0p] at z; cases z
        · rw [upd_ne y]; exact r3.g.h b o z
      · by_cases y : b = p
        · subst y; rw [i2] at z; cases z
        · rw [upd_ne y]; exact r3.g.ih b o z
      · obtain ⟨c, vs, t1, t2, t3, t4, t5⟩ := r3.mu j l hj
        have nb : c ≠ p := fun y => by rw [y, h2] at t2; cases t2
        exact ⟨c, vs, t1, by rw [upd_ne nb]; exact t2, t3, t4, t5⟩
      · obtain ⟨c, kvs, t1, t2, t3, t4, t5, t6⟩ := r3.md j ks l hj
        have nb : c ≠ p := fun y => by
          subst y
          obtain ⟨c', kvs', u1, u2, _⟩ := r.md j ks l hj
          have hji : j ≠ i := fun y => by
            subst y
            exact absurd (List.getElem?_eq_some_iff.mp hj).1 hl
          rw [List.getElem?_set_ne (Ne.symm hji)] at t1
          exact no j ks l hj t1
        exact ⟨c, kvs, t1, by rw [upd_ne nb]; exact t2, t3, t4, t5, t6⟩
      · obtain ⟨v, J, u1, w, u3, u4⟩ := r.owf (gr.trans gg) hp j d hj
        have hσ : σ.set i (some (V.ref p)) = σ := List.set_eq_of_length_le (by rw [r.len]; omega)
        rw [hσ]
        exact ⟨v, J, u1, w.heap (ex_upd w.h u3), u4⟩
    exact q2 _ I2 _ r5 (Ex.refl _)
theorem vs_putD (i : Nat) {x : Str} {pos' npos : Pos} (hu : X.A.units + 64 < cLine) (hv : VE X W A H0 e f) (hk : VE X W A H0 ie fk) (hN : X.N[i]? = some x := by rfl) (hvis : Vis X.env.scope x := by first | exact Or.inl rfl | exact Or.inr (Or.inl rfl) | exact Or.inr (Or.inr rfl)) (hd : (x == ("__debug__" : Str)) = false := by decide)
    (hcd : (x == ("__classdict__" : Str)) = false := by decide) (hs : swapsWith e (some (.Subscript (.Name x npos) ie pos')) pos.line X.env = pure false := by rfl) :
    VS X W A H0 fr (.Assign [.Subscript (.Name x npos) ie pos'] e pos) (gPutD i fk f) := ps_imp (ps_dput (by omega) (pe_var hN hvis hd hcd) hk hv hs) fun Z σ H ⟨env, I, r, q⟩ => by
  unfold gPutD at q
  cases he : env[i]? with
  | none => rw [he] at q; exact q.elim
  | some sl =>
    rw [he] at q
    cases sl with
    | md ks l =>
      have q0 : PostS X.K W A H0 fr I Z (SR.of env (f env) fun d => .of env (fk env) fun
        | .int x => if ks.length < sizeLine then .nx (env.set i (.md (putKs ks x) (putDs ks l x d))) else .no
        | _ => .no) := q
      refine ⟨env, I, r, of_run r q0 fun d v I1 H1 e1 r1 g1 k1 q1 => ?_⟩
      obtain ⟨c, kv0, t1, _⟩ := r1.md i ks l he
      refine ⟨.ref c, t1, env, I1, r1, of_run r1 q1 fun dk y I2 H2 e2 r2 g2 k2 q2 => ?_⟩
      cases dk <;> try (exact q2.elim)
      rename_i n
      have q3 : PostS X.K W A H0 fr I2 Z (if ks.length < sizeLine then .nx (env.set i (.md (putKs ks n) (putDs ks l n d))) else .no) := q2
      by_cases hz : ks.length < sizeLine
      · rw [if_pos hz] at q3
        obtain ⟨c', kvs, u1, u2, u3, u4, u5, u6⟩ := r2.md i ks l he
        rw [t1] at u1
        cases u1
        obtain ⟨w1, w2⟩ := put_rd (x := n) u5 u6 (k1.mono g2.i)
        have hlen : kvs.length < sizeLine := by
          have := congrArg List.length u5
          rw [List.length_map, List.length_map] at this
          omega
        rw [k2.int_inv]
        exact ⟨c, _, rfl, DPut.k (k := .inl n) u2 hlen, q3 σ I2 _ (r2.chgD he t1 w1 w2) (Ex.refl _)⟩
      · rw [if_neg hz] at q3; exact q3.elim
    | _ => exact q.elim
/-! a dict walked: its keys -/
def keysD : D → R D
  | .dct ks _ => .ok (.lst (ks.map D.int))
  | _ => .no
theorem serves_keys {K : PySem.W.Frag} {I : Hp} {p : Addr} {ob : Obj} {kvs : List (Key × V)} {ks : List Int} (h : I p = some (.frz ob (.dK kvs))) (hk : kvs.map (·.1) = ks.map Sum.inl) : Serves K (Itk p ob kvs) (ks.map D.int) I := by
  have hl : kvs.length = ks.length := by
    have := congrArg List.length hk
    rwa [List.length_map, List.length_map] at this
  have w := walk_keys (d := p) (o := ob) (kvs := kvs)
  unfold Serves
  rw [List.length_map, ← hl]
  refine w.mono (fun H' e => e _ _ h) fun i H' x H'' hi e y => ?_
  obtain ⟨rfl, k, v, h1, rfl⟩ := y
  have h2 := congrArg (fun l : List Key => l[i]?) hk
  simp only [List.getElem?_map, h1] at h2
  cases hks : ks[i]? with
  | none => rw [hks] at h2; cases h2
  | some n =>
    rw [hks] at h2
    have h2 : k = .inl n := Option.some.inj h2
    subst h2
    exact ⟨.int n, by rw [List.getElem?_map, hks]; rfl, .inl ⟨rfl, .int⟩⟩
theorem vi_keys (h : VE X W A H0 e f) : VI X W A H0 tg e (f1 keysD f) := pi_imp (pi_keys h) fun σ H R ⟨env, I, rl, q⟩ => ⟨env, I, rl, by
  have q1 : PostI X.K W σ I H ((f env).bind keysD) R := q
  cases hf : f env with
  | ok d =>
    rw [hf] at q1
    intro v I' H' g k
    cases k <;> try (exact q1.elim)
    rename_i h1 h2 h3
    exact ⟨_, _, rfl, .inl ⟨_, g.ih _ _ h1, q1 _ I' H' g (serves_keys h1 h2)⟩⟩
  | er c p => rw [hf] at q1; exact q1
  | no => rw [hf] at q1; exact q1.elim⟩
end
end BW
/-! BCore30: a list turned about; ranges with a step. -/
namespace BW
open PySem PySem.Spec PyProof.Rows L2
open Evl (Ex Ex.refl Ex.trans Ex.new ex_rd ex_l ex_t)
section
variable {prog : Program} {w : World} {A : Around} {E : Value → Shared → Prop} {s : Shared} {it l : Addr} {items : Array Value}
theorem init_rev {R : Result → Shared → Prop} (hh : A.handled = none) (hit : s.heap.IsRevIter it l ((items.size : Int) - 1)) (hl : s.heap.IsList l items) (hne : l ≠ it) (hn : items.size ≤ sizeLine)
    (S : Addr) (hSi : S ≠ it) (hSl : S ≠ l) (hS : s.heap.get? S = some { cls := .type "list", data := .seq #[] })
    (hR : ∀ h' tk acc' c', (∀ b o, b ≠ S → b ≠ it → s.heap.get? b = some o → h'.get? b = some o) → h'.get? S = some { cls := .type "list", dict := none, data := .seq acc' c', slots := #[] } →
      ItemsOf (fun i v => items[items.size - 1 - i]? = some v) acc' items.size → R (.ok (.ret .none)) { s with heap := h', toks := tk }) :
    wpAny (model prog w) A.in1 (Builtin.«list.__init__» ⟨[.ref S, .ref it], []⟩)
      (fun fin s' => match fin with | .done f => R (.ok f) s' | .again c' => c'.quiet = true ∧ codeAny (model prog w) A c' R s') (fun e s' => R (.error e) s') s := by
  have W := (Walks.listRev (prog := prog) (w := w) (A := A.in1) hh it l hne items).toS
  have hSf : S ∉ [it, l] := by simp [hSi, hSl]
  show wpAny _ _ (do let old ← Builtin.List.listItems (.ref S)
                     Builtin.List.listUpdate (.ref S) (fun _ => #[])
                     letGo old.toList.reverse
                     Builtin.List.listExtendWith (.ref S) (.ref it) .none) _ _ s
  refine wpAny_bind ?_; unfold Builtin.List.listItems; refine wpAny_bind (wpAny_seqItems hS rfl (wpAny_pure ?_))
  show wpAny _ _ (updateSeq S (fun _ => #[]) >>= fun _ => letGo (#[] : Array Value).toList.reverse >>= fun _ => Builtin.List.listExtendWith (.ref S) (.ref it) .none) _ _ s
  refine wpAny_bind (wpAny_updateSeq hS rfl ?_)
  have h2 : (s.heap.update S (Obj.mapSeq (fun _ => (#[] : Array Value)))).get? S = _ := Heap.get?_update_self (Obj.mapSeq (fun _ => (#[] : Array Value))) hS rfl
  have oth : ∀ b o, b ≠ S → s.heap.get? b = some o → (s.heap.update S (Obj.mapSeq (fun _ => (#[] : Array Value)))).get? b = some o := fun b o hb e => (Heap.get?_update_other _ _ (Ne.symm hb)).trans e
  have hit1 := hit.at fun o e => oth it o (Ne.symm hSi) e
  have hl1 : (s.heap.update S (Obj.mapSeq (fun _ => (#[] : Array Value)))).IsList l items := by
    obtain ⟨o, e1, e2⟩ := hl; exact ⟨o, oth l o (Ne.symm hSl) e1, e2⟩
  refine wpAny_bind (wpAny_letGo ?_); unfold Builtin.List.listExtendWith
  have hT : ({ s with heap := s.heap.update S (Obj.mapSeq (fun _ => (#[] : Array Value))) } : Shared).TypeIs (.ref it) "list_reverseiterator" := by obtain ⟨o, e1, e2, _⟩ := hit1; exact ⟨o, e1, e2⟩
  refine wpAny_bind (wpAny_typeOf hT ?_); rw [if_neg (by simp [Builtin.List.listSameRef, hSi])]
  refine wpAny_bind (wpAny_pyIter_revIter hit1 ?_); refine wpAny_bind (wpAny_holding ?_); unfold Builtin.List.listLengthHint
  refine wpAny_bind (wpAny_specialOf hT RT.nolen_lri ?_)
  show wpAny _ A.in1 (specialOf (Value.ref it) (Str.ofString "__length_hint__") >>= _) _ _ _
  refine wpAny_bind (wpAny_specialOf hT RT.hint_lri ?_)
  generalize hid : ("list_reverseiterator.__length_hint__" : String) = id0
  wp_delta
  rw [show splitId id0 = some ("list_reverseiterator", "__length_hint__") from by subst hid; decide +kernel]
  subst hid
  refine wpAny_bind (wpAny_isInstance (b := true) hT (by rw [isSubtype_type]; kernel_rfl) ?_); refine wpAny_pure ?_; rw [if_neg (by decide)]
  have e0 : ((items.size : Nat) : Int) - 1 - ((0 : Nat) : Int) = (items.size : Int) - 1 := by omega
  refine wpAny_pure ⟨plainId_quiet F.plain_extend_loop _, codeAny_extend_loopS W hn S hSf .none items.size 0 _ #[] _ rfl (Nat.zero_le _) ⟨Nat.zero_le _, by rw [e0]; exact hit1, hl1⟩ h2 (ItemsOf.nil _) fun s' acc' c' hm hS' hacc => ?_⟩
  rw [Moved.eq_with hm]
  refine hR s'.heap s'.toks acc' c' (fun b o hb hb2 e => hm.heap b o (fun hmem => ?_) (oth b o hb e)) hS' hacc
  rcases List.mem_cons.mp hmem with e' | hmem
  · exact hb e'
  · exact hb2 (List.mem_singleton.mp hmem)
theorem call_listRev {Q : Value → Shared → Prop} (hh : A.handled = none) (hit : s.heap.IsRevIter it l ((items.size : Int) - 1)) (hl : s.heap.IsList l items) (hne : l ≠ it) (hn : items.size ≤ sizeLine)
    (hQ : ∀ h' tk acc c', (∀ b o, b ≠ it → s.heap.get? b = some o → h'.get? b = some o) → h'.get? s.heap.objs.size = some { cls := .type "list", dict := none, data := .seq acc c', slots := #[] } →
      ItemsOf (fun i v => items[items.size - 1 - i]? = some v) acc items.size → Q (.ref s.heap.objs.size) { s with heap := h', toks := tk }) :
    wpAny (model prog w) A (call (.type "list") [.ref it]) Q E s := by
  obtain ⟨oi, hoi, hoi2⟩ := id hit
  obtain ⟨ol, hol, hol2⟩ := id hl
  refine callType_codes (Q₁ := fun obj s1 => obj = .ref s.heap.objs.size ∧ s1 = { s with heap := s.heap.push { cls := .type "list", data := .seq #[] } }) F.called_list (F.typeCall_list_1 _) F.entry_list_init (code_list_new _ ⟨rfl, rfl⟩) fun obj s1 h1 => ?_
  obtain ⟨rfl, rfl⟩ := h1
  have hS : (s.heap.push { cls := .type "list", data := .seq #[] }).get? s.heap.objs.size = some { cls := .type "list", data := .seq #[] } := Heap.get?_push_size _ rfl
  refine ⟨⟨_, hS, rfl⟩, F.args_list_init_2 _ _, init_rev (A := A.in1) hh ⟨oi, Heap.get?_push_of_some _ hoi, hoi2⟩ ⟨ol, Heap.get?_push_of_some _ hol, hol2⟩ hne hn _ (Nat.ne_of_gt (Heap.lt_size hoi)) (Nat.ne_of_gt (Heap.lt_size hol)) hS fun h' tk acc' c' hk hS' hacc => ⟨rfl, ?_⟩⟩
  exact hQ h' tk acc' c' (fun b o hb e => hk b o (Nat.ne_of_lt (Heap.lt_size e)) hb (Heap.get?_push_of_some _ e)) hS' hacc
end
section
variable {X : Cx} {W : WX} {A H0 : Hp} {a e : Expr} {fa f : F} {pos : Pos}
/-- list(reversed(x)), x a list -/
def tListRev (K : PySem.W.Frag) (te : TE) : TE := fun σ H Q => te σ H fun v H1 => ∃ (a : Addr) (xs : List V), v = .ref a ∧ SqL K H1 a xs ∧ ∀ q, H1 q = none → Q (.ref q) (upd H1 q (.lst xs.reverse))
theorem pe_listRev {te : TE} {p p2 pos2 : Pos} (hc : X.calm = true) (hg : Gl X "list") (hm : X.mg "list" = none) (hg2 : Gl X "reversed") (hm2 : X.mg "reversed" = none) (he : PE X e te)
    (hs : starEach [e] X.env = (false, eval e X.env) :: starEach [] X.env := by rfl)
    (hs2 : starEach [.Call (.Name "reversed" p2) [e] [] pos2] X.env = (false, eval (.Call (.Name "reversed" p2) [e] [] pos2) X.env) :: starEach [] X.env := by rfl) :
    PE X (.Call (.Name "list" p) [.Call (.Name "reversed" p2) [e] [] pos2] [] pos) (tListRev X.K te) := by
  refine ⟨fun pins s σ H Q I h => ?_⟩
  refine Call_ (ld_blt I hg hm boot_list (PyProof.Rows.callWith_type1 (args_cons (Call_ (ld_blt I hg2 hm2 PyProof.Rows.boot_reversed (PyProof.Rows.callWith_type1 (args_cons (thn (he.run pins s σ H _ I h) fun u s1 ⟨v, H1, I1, r1, q1⟩ => args_nil ?_) hs) hs rfl))) hs2) hs2 rfl))
  obtain ⟨a, xs, rfl, hq, q⟩ := q1
  obtain rfl : u = Value.ref a := r1
  obtain ⟨its, rv, p', hz⟩ := I1.list hq
  have hl := p'.isList
  obtain ⟨ol, hol, hol2⟩ := id hl
  have hn : its.toArray.size ≤ sizeLine := by rw [List.size_toArray, ← rv.length]; exact hz
  refine call_reversed_list hl (args_nil (call_listRev (I1.ok.hd hc) ⟨_, Heap.get?_push_size _ rfl, rfl, rfl⟩ (hl.push _) (Nat.ne_of_lt (Heap.lt_size hol)) hn fun h' tk acc c' hk e' hi => ?_))
  have hz1 : s1.heap.objs.size ≤ (s1.heap.push (revObj a ((its.toArray.size : Int) - 1))).objs.size := by simp [Heap.push]
  refine ⟨.ref _, upd H1 _ (.lst xs.reverse), I1.laid (t' := tk) (fun b o e => hk b o (Nat.ne_of_lt (Heap.lt_size e)) (Heap.get?_push_of_some _ e)) hz1 (show ObjOk X.prog X.w _ _ _ (.lst xs.reverse) from ⟨by rw [List.length_reverse]; exact hz, acc.toList, c', RT.vals_rev rv hi, ?_⟩), rfl, q _ (I1.hok.fresh hz1)⟩
  rw [Array.toArray_toList]; exact e'
def revS : D → R D
  | .scr l => .ok (.lst (l.reverse.map D.int))
  | .lst l => .ok (.lst l.reverse)
  | _ => .no
theorem vf_listRev {p p2 pos2 : Pos} (hc : X.calm = true) (hm : X.mg "list" = none) (hm2 : X.mg "reversed" = none) (he : VE X W A H0 e fa) (hg : Gl X "list" := by rfl) (hg2 : Gl X "reversed" := by rfl) (hs : starEach [e] X.env = (false, eval e X.env) :: starEach [] X.env := by rfl)
    (hs2 : starEach [.Call (.Name "reversed" p2) [e] [] pos2] X.env = (false, eval (.Call (.Name "reversed" p2) [e] [] pos2) X.env) :: starEach [] X.env := by rfl) : VF X W A H0 (.Call (.Name "list" p) [.Call (.Name "reversed" p2) [e] [] pos2] [] pos) (f1 revS fa) :=
  pe_imp (pe_listRev hc hg hm hg2 hm2 he hs hs2) fun σ H Q ⟨env, I, rl, q⟩ => ⟨env, I, rl, by
    have q0 : PostF X.K W σ I H ((fa env).bind revS) Q := q
    cases hf : fa env with
    | er c p => rw [hf] at q0; exact q0
    | no => rw [hf] at q0; exact q0.elim
    | ok d =>
      rw [hf] at q0
      cases d <;> try (exact q0.elim)
      · rename_i l
        intro v I1 H1 g1 k
        obtain ⟨a, us, rfl, h1, h2⟩ := k.lst_inv
        exact ⟨a, us, rfl, .inl (.inl (g1.ih _ _ h1)), fun n hn => q0 n _ I1 _ (g1.trans (Grow.hid g1.ih (Ex.new hn))) (Evl.fresh_back g1.h hn) (Evl.fresh_back g1.ih hn) upd_same h2.reverse⟩
      · rename_i l
        intro v I1 H1 g1 k
        obtain ⟨a, rfl, h1⟩ := k.scr_inv
        refine ⟨a, _, rfl, ex_l g1.ih h1, fun n hn => q0 n _ I1 _ (g1.trans (Grow.hid g1.ih (Ex.new hn))) (Evl.fresh_back g1.h hn) (Evl.fresh_back g1.ih hn) upd_same ?_⟩
        rw [List.map_reverse]
        exact RdA.ints.reverse⟩
/-! a range with a step above nought -/
def rgS (lo m c : Int) : List Int := (List.range (Builtin.Range.rangeSize lo m c).toNat).map fun k => lo + (k : Nat) * c
def range3D : List D → R D
  | [.int lo, .int m, .int c] => if -(2 ^ 29) ≤ lo ∧ lo < 2 ^ 29 ∧ -(2 ^ 29) ≤ m ∧ m < 2 ^ 29 ∧ 1 ≤ c ∧ c < 2 ^ 29 then .ok (.lst ((rgS lo m c).map D.int)) else .no
  | _ => .no
theorem rgS_len (lo m c : Int) : (rgS lo m c).length = (Builtin.Range.rangeSize lo m c).toNat := by unfold rgS; rw [List.length_map, List.length_range]
theorem serves_rgS {K : PySem.W.Frag} {I : Hp} {lo m c : Int} : Serves K (Itc lo c (Builtin.Range.rangeSize lo m c).toNat) ((rgS lo m c).map D.int) I := by
  have w := walk_rangeC (lo := lo) (c := c) (n := (Builtin.Range.rangeSize lo m c).toNat)
  unfold Serves
  rw [List.length_map, rgS_len]
  exact w.mono (fun _ _ => trivial) fun i H' x H'' hi e y => by
    obtain ⟨e1, e2⟩ := y
    subst e1 e2
    refine ⟨.int (lo + (i : Nat) * c), ?_, .inl ⟨rfl, .int⟩⟩
    unfold rgS
    rw [List.getElem?_map, List.getElem?_map, List.getElem?_range hi]
    rfl
theorem small_up {a b c : Int} (ha : -(2 ^ 29) ≤ a) (ha' : a < 2 ^ 29) (hb : -(2 ^ 29) ≤ b) (hb' : b < 2 ^ 29) (hc : 1 ≤ c) (hc' : c < 2 ^ 29) : Builtin.Range.small a b c = true := by
  have h1 := rangeSize_toNat a b c
  have h2 := rangeSize_toNat_le a b c
  have h3 : Builtin.Range.rangeSize a b c * c ≤ 2 ^ 31 := by
    unfold Builtin.Range.rangeSize
    rw [if_pos (by omega)]
    split
    · have := Int.ediv_mul_le (b - a - 1) (show c ≠ 0 by omega)
      rw [Int.add_mul]
      omega
    · omega
  have h4 : 0 ≤ Builtin.Range.rangeSize a b c * c := Int.mul_nonneg (by omega) (by omega)
  unfold Builtin.Range.small
  simp only [Builtin.Range.rangeFitsLong, Bool.and_eq_true, Bool.or_eq_true, decide_eq_true_eq, beq_iff_eq, show c > 0 by omega, if_true]
  generalize Builtin.Range.rangeSize a b c = z at *
  repeat' apply And.intro
  all_goals first | omega | (split <;> omega)
theorem args3 {K : PySem.W.Frag} {I H : Hp} {vs : List V} {x y z : D} (h : ArgsOk K I H [false, false, false] vs [x, y, z]) : ∃ v w u, vs = [v, w, u] ∧ Rd K H v x ∧ Rd K H w y ∧ Rd K H u z := by
  cases h with
  | lo h1 t => obtain ⟨v, w, rfl, h2, h3⟩ := args2 t; exact ⟨_, _, _, rfl, h1, h2, h3⟩
theorem vi_range3 {b c tg : Expr} {fs : FA} {p : Pos} (hm : X.mg "range" = none) (ha : VA X W A H0 [a, b, c] [false, false, false] fs) (hg : Gl X "range" := by rfl) (hs : starEach [a, b, c] X.env = (false, eval a X.env) :: starEach [b, c] X.env := by rfl) (hpl : (backTo pos (starEach [b, c] X.env)).any (·.1) = false := by rfl) :
    VI X W A H0 tg (.Call (.Name "range" p) [a, b, c] [] pos) (fA range3D fs) :=
  pi_imp (pi_range3 hg hm ha hs hpl) fun σ H Z ⟨env, I, rl, q⟩ => ⟨env, I, rl, by
    have q1 : PostI X.K W σ I H ((fs env).bind range3D) Z := q
    cases hf : fs env with
    | ok ds =>
      rw [hf] at q1
      intro vs I' H' g k
      obtain ⟨d, d2, d3, rfl⟩ : ∃ x y z, ds = [x, y, z] := by
        have := argsLen k
        match ds, this with
        | [x, y, z], _ => exact ⟨x, y, z, rfl⟩
      obtain ⟨v, u, t, rfl, hv, hu, ht⟩ := args3 k
      cases d <;> try (exact q1.elim)
      cases d2 <;> try (exact q1.elim)
      cases d3 <;> try (exact q1.elim)
      rename_i n m c
      have q2 : PostI X.K W σ I H (if -(2 ^ 29) ≤ n ∧ n < 2 ^ 29 ∧ -(2 ^ 29) ≤ m ∧ m < 2 ^ 29 ∧ 1 ≤ c ∧ c < 2 ^ 29 then R.ok (D.lst ((rgS n m c).map D.int)) else .no) Z := q1
      by_cases hc : -(2 ^ 29) ≤ n ∧ n < 2 ^ 29 ∧ -(2 ^ 29) ≤ m ∧ m < 2 ^ 29 ∧ 1 ≤ c ∧ c < 2 ^ 29
      · rw [if_pos hc] at q2
        obtain ⟨c1, c2, c3, c4, c5, c6⟩ := hc
        rw [hv.int_inv, hu.int_inv, ht.int_inv]
        exact ⟨n, m, c, _, rfl, ⟨by omega, by omega, small_up c1 c2 c3 c4 c5 c6, rangeSize_toNat n m c⟩, q2 _ I' H' g serves_rgS⟩
      · rw [if_neg hc] at q2
        exact q2.elim
    | er c p => rw [hf] at q1; exact q1
    | no => rw [hf] at q1; exact q1.elim⟩
end
end BW
/-! BCore31: a name's own list lent to one expression. -/
namespace BW
open PySem PySem.Spec PyProof.Rows L2
open Evl (Ex Ex.refl Ex.trans Ex.new ex_rd ex_l ex_t)
theorem back_growJ {I H J J' H' : Hp} (ij : Ex I J) (ih : Ex I H) (jh : Ex J H) (g : Grow J H J' H') : Grow I H (back I J J') H' := by
  refine ⟨back_i, g.h, (back_le (ij.trans g.i)).trans g.ih, fun a o h => ?_⟩
  unfold back at h
  cases q : I a with
  | some u => rw [q] at h; exact .inl h
  | none =>
    rw [q] at h
    cases q2 : J a with
    | some u => rw [q2] at h; cases h
    | none =>
      rw [q2] at h
      rcases g.new a o h with z | z
      · rw [q2] at z; cases z
      · exact .inr z
/-- slot i is frozen while f is worked out; what is told holds no list -/
def frzE (i : Nat) (env : En) : En := match env[i]? with
  | some (.mu l) => env.set i (.im (.lst l))
  | _ => env
def fLend (i : Nat) (f : F) : F := fun env => (f (frzE i env)).bind lfD
section
variable {X : Cx} {W : WX} {A H0 : Hp} {e : Expr} {f : F}
theorem lend_post {K : PySem.W.Frag} {W : WX} {σ : L2.St} {I I' H : Hp} {r : R D} {Q : VK} (ih : Ex I H) (ij : Ex I I') (jh : Ex I' H) (hl : ∀ b o, I' b = some o → I b = some o ∨ ∃ us, o = .lst us) (q : PostE K W σ I H (r.bind lfD) Q) : PostE K W σ I' H r Q := by
  cases r with
  | no => exact q.elim
  | er c p => exact fun cls od J' H' g k => q cls od _ H' (back_growJ ij ih jh g) (k.back ij g.i hl)
  | ok d =>
    have q3 : PostE K W σ I H (if lf d then R.ok d else R.no) Q := q
    by_cases z : lf d = true
    · rw [if_pos z] at q3
      exact fun v J' H' g k => q3 v _ H' (back_growJ ij ih jh g) (k.back ij g.i hl z)
    · rw [if_neg z] at q3
      exact q3.elim
theorem ve_lend (i : Nat) (h : VE X W A H0 e f) : VE X W A H0 e (fLend i f) := pe_imp h fun σ H Q ⟨env, I, r, q⟩ => by
  have q0 : PostE X.K W σ I H ((f (frzE i env)).bind lfD) Q := q
  unfold frzE at q0
  cases he : env[i]? with
  | none => rw [he] at q0; exact ⟨env, I, r, lend_post r.g.ih (Ex.refl _) r.g.ih (fun _ _ z => .inl z) q0⟩
  | some s =>
    rw [he] at q0
    cases s with
    | mu l =>
      obtain ⟨I', e', hl, r'⟩ := r.freezeL he
      exact ⟨_, I', r', lend_post r.g.ih e' r'.g.ih hl q0⟩
    | _ => exact ⟨env, I, r, lend_post r.g.ih (Ex.refl _) r.g.ih (fun _ _ z => .inl z) q0⟩
end
end BW
/-! BCore32: defs that are handed a new list of their own, and change it. -/
namespace BW
open PySem PySem.Spec PyProof.Rows L2
open Evl (Ex Ex.refl Ex.trans Ex.new ex_rd ex_l ex_t)
def less1 (H : Hp) (a : Addr) : Hp := fun x => if x = a then none else H x
theorem less1_ne {H : Hp} {a b : Addr} (h : b ≠ a) : less1 H a b = H b := if_neg h
theorem less1_eq {H : Hp} {a : Addr} : less1 H a a = none := if_pos rfl
theorem less1_ex {H : Hp} {a : Addr} : Ex (less1 H a) H := fun b o h => by
  by_cases z : b = a
  · rw [z, less1_eq] at h; cases h
  · rw [less1_ne z] at h; exact h
/-- the first argument: a new list, the def's own -/
def spO (K : PySem.W.Frag) (m : List D → R D) : Sp := fun vs H Q E => ∃ (a : Addr) (xs : List V) (l : List D) (v : V) (d : D) (I : Hp), vs = [.ref a, v] ∧ Ex I H ∧ I a = none ∧ H a = some (.lst xs) ∧ RdA K I xs l ∧ Rd K I v d ∧ PostE K (fun cls od _ H' => E cls od H') [] I (less1 H a) (m [.lst l, d]) Q
def envO (n : Nat) (l : List D) (d : D) : En := .mu l :: .im d :: List.replicate (n - 2) .no
def defO (n : Nat) (g : G) : List D → R D
  | [.lst l, d] => outD (g (envO n l d))
  | _ => .no
theorem relO {K : PySem.W.Frag} {I H : Hp} {N : List Str} {a : Addr} {xs : List V} {l : List D} {v : V} {d : D} (ie : Ex I H) (ia : I a = none) (ha : H a = some (.lst xs)) (h1 : RdA K I xs l) (h2 : Rd K I v d) (hn : 2 ≤ N.length) : Rel K I (less1 H a) (envO N.length l d) (L2.start N [.ref a, v]) I H := by
  have get : ∀ (i : Nat) (s : Sl), (envO N.length l d)[i]? = some s → (i = 0 ∧ s = .mu l) ∨ (i = 1 ∧ s = .im d) ∨ s = .no := fun i s e => by
    unfold envO at e
    match i, e with
    | 0, e => exact .inl ⟨rfl, (Option.some.inj e).symm⟩
    | 1, e => exact .inr (.inl ⟨rfl, (Option.some.inj e).symm⟩)
    | i + 2, e =>
      have e : (List.replicate (N.length - 2) Sl.no)[i]? = some s := e
      rw [List.getElem?_replicate] at e
      split at e
      · exact .inr (.inr (Option.some.inj e).symm)
      · cases e
  refine ⟨⟨Ex.refl _, less1_ex, ie, fun b o z => .inl z⟩, ?_, fun i d' e => ?_, fun i l' e => ?_, fun i d' e => ?_, fun i j l' m b e1 e2 _ _ => ?_, fun i ks l' e => ?_, fun i j ks ls l' m b e1 e2 _ _ => ?_, fun i d e => ?_⟩
  · unfold L2.start envO
    simp
  · rcases get i _ e with ⟨_, z⟩ | ⟨rfl, z⟩ | z
    · cases z
    · cases z; exact ⟨v, rfl, h2⟩
    · cases z
  · rcases get i _ e with ⟨rfl, z⟩ | ⟨_, z⟩ | z
    · cases z; exact ⟨a, xs, rfl, ha, ia, less1_eq, h1⟩
    · cases z
    · cases z
  · rcases get i _ e with ⟨_, z⟩ | ⟨_, z⟩ | z <;> cases z
  · rcases get i _ e1 with ⟨r1, z⟩ | ⟨_, z⟩ | z <;> rcases get j _ e2 with ⟨r2, y⟩ | ⟨_, y⟩ | y <;> first | (cases z; done) | (cases y; done) | exact r1.trans r2.symm
  · rcases get i _ e with ⟨_, z⟩ | ⟨_, z⟩ | z <;> cases z
  · rcases get i _ e1 with ⟨_, z⟩ | ⟨_, z⟩ | z <;> cases z
  · rcases get i _ e with ⟨_, z⟩ | ⟨_, z⟩ | z <;> cases z
section
variable {P : Program} {w : World} {K : PySem.W.Frag} {mg : Str → Option Value} {base : Heap}
theorem fn_own {x qual : Str} {st : Stmt} {f : Addr} {fd : FuncData} {N : List Str} {p1 p2 : Str} {k : Nat} {g : G} (F0 : Fn K x qual st f fd) (S : FnScope N [p1, p2] (defScope st)) (hn : 2 ≤ N.length)
    (body : ∀ (cdv : Value) (A : Around) (outer : List PySem.Env) (s : Shared) (H I H0 : Hp) (E : XK), Room k (A.deeper (envOfC qual (defScope st) s.heap.objs.size f cdv)) → Takes (Cb P w K mg base N qual st f cdv A outer s H E) (WB E) →
      PassesOwn (model P w) (A.deeper (envOfC qual (defScope st) s.heap.objs.size f cdv)) (envOfC qual (defScope st) s.heap.objs.size f cdv) (Cb P w K mg base N qual st f cdv A outer s H E).xe → VSs (Cb P w K mg base N qual st f cdv A outer s H E) (WB E) I H0 false (defBody st) g) :
    FnOk P w K mg base (L2.CX P w) (k + 1) f fd [p1, p2] (spO K (defO N.length g)) := by
  refine F0.ok S (fun vs H Q E ⟨_, _, _, _, _, _, e, _⟩ => by rw [e]; rfl) fun cdv A outer s H vs Q E hr h => ?_
  obtain ⟨a, xs, l, v, d, I, rfl, ie, ia, ha, h1, h2, q⟩ := h
  refine ⟨_, body cdv A outer s H I (less1 H a) E hr (takes_of rfl rfl rfl rfl) (passes_of rfl), envO N.length l d, I, relO ie ia ha h1 h2 hn, ?_⟩
  have q1 : PostE K (WB E) [] I (less1 H a) (outD (g (envO N.length l d))) Q := q
  cases hg : g (envO N.length l d) with
  | nx e => rw [hg] at q1; exact fun σ' I' H' r _ => q1 .non I' H' r.g .non
  | rt d => rw [hg] at q1; exact q1
  | er e c p => rw [hg] at q1; exact fun σ' I' H' cls od r _ kk => q1 cls od I' H' r.g kk
  | bk e => rw [hg] at q1; exact q1.elim
  | ct e => rw [hg] at q1; exact q1.elim
  | no => rw [hg] at q1; exact q1.elim
end
structure CalO (P : Program) (w : World) (K : PySem.W.Frag) (mg : Str → Option Value) (base : Heap) (x : Str) (k : Nat) (m : List D → R D) : Prop where
  ex : ∃ (f : Addr) (fd : FuncData) (ps : List Str), FnOk P w K mg base (L2.CX P w) k f fd ps (spO K m) ∧ mg x = some (.ref f) ∧ PySem.W.keepIn K (.ref f) = true ∧ Binds K fd ps []
section
variable {X : Cx} {W : WX} {A H0 : Hp} {e e2 : Expr} {fa fb : F} {pos : Pos} {x : Str} {j k : Nat} {m : List D → R D} {p : Pos}
theorem own_grow {I H I2 H2 I' H' : Hp} {a : Addr} (g : Grow I H I2 H2) (h0 : H a = none) (g2 : Grow I2 (less1 H2 a) I' H') : Grow I H I' H' := by
  refine ⟨g.i.trans g2.i, fun b o z => g2.h b o ?_, g2.ih, fun b o z => ?_⟩
  · by_cases y : b = a
    · rw [y, h0] at z; cases z
    · rw [less1_ne y]; exact g.h b o z
  · rcases g2.new b o z with z | z
    · exact g.new b o z
    · by_cases y : b = a
      · exact .inr (by rw [y]; exact h0)
      · rw [less1_ne y] at z
        exact .inr (Evl.fresh_back g.h z)
theorem ve_calO (C : CalO X.prog X.w X.K X.mg X.base x k m) (hr : Room j X.A) (tk : Takes X W) (ha : VF X W A H0 e fa) (hb : VE X W A H0 e2 fb) (hk : k ≤ j := by decide) (hg : Gl X x := by rfl) (hdb : (x == ("__debug__" : Str)) = false := by decide) (he1 : starEach (e2 :: []) X.env = (false, eval e2 X.env) :: starEach [] X.env := by rfl) (he : starEach (e :: [e2]) X.env = (false, eval e X.env) :: starEach [e2] X.env := by rfl) (hpl : (backTo pos (starEach [e2] X.env)).any (·.1) = false := by rfl) :
    VE X W A H0 (.Call (.Name x p) (e :: [e2]) [] pos) (f2 (fun u v => m [u, v]) (fLs fa) fb) := by
  obtain ⟨f, fd, ps, Fn, h1, h2, h3⟩ := C.ex
  exact pe_imp (pe_callS Fn (hr.mono hk) hg h1 h2 h3 (fun σ => passAt tk σ) (pa_cons ha (pa_cons hb pa_nil he1) he) hdb he hpl) fun σ H Q ⟨env, I, rl, q⟩ => ⟨env, I, rl, by
    have q1 : PostE X.K W σ I H (((fa env).bind lsD).bind fun u => (fb env).bind fun v => m [u, v]) Q := q
    cases hf : fa env with
    | er c p => rw [hf] at q1; exact q1
    | no => rw [hf] at q1; exact q1.elim
    | ok du =>
      rw [hf] at q1
      rcases D.lst_or du with ⟨l, rfl⟩ | hd
      · have q1 : PostE X.K W σ I H ((fb env).bind fun v => m [.lst l, v]) Q := q1
        intro a xs I1 H1 g1 a0 a1 a2 a3
        refine ⟨env, I1, rl.grow g1, ?_⟩
        cases hs : fb env with
        | er c p => rw [hs] at q1; exact fun cls od I2 H2 g2 k2 => q1 cls od I2 H2 (g1.trans g2) k2
        | no => rw [hs] at q1; exact q1.elim
        | ok d =>
          rw [hs] at q1
          have q2 : PostE X.K W σ I H (m [.lst l, d]) Q := q1
          intro v I2 H2 g2 k2
          have gg := g1.trans g2
          refine ⟨a, xs, l, v, d, I2, rfl, gg.ih, grow_keep g2 a2 a1, g2.h _ _ a2, a3.mono g2.i, k2, ?_⟩
          cases hm : m [.lst l, d] with
          | no => rw [hm] at q2; exact q2.elim
          | er c p => rw [hm] at q2; exact fun cls od I3 H3 g3 k3 => q2 cls od I3 H3 (own_grow gg a0 g3) k3
          | ok r => rw [hm] at q2; exact fun v3 I3 H3 g3 k3 => q2 v3 I3 H3 (own_grow gg a0 g3) k3
      · cases du <;> first | exact absurd rfl (hd _) | exact q1.elim⟩
end
end BW
/-! BCore33: defs that hand back a new list, or None. -/
namespace BW
open PySem PySem.Spec PyProof.Rows L2
open Evl (Ex Ex.refl Ex.trans Ex.new ex_rd ex_l ex_t)
def PostP (K : PySem.W.Frag) (W : WX) (σ : L2.St) (I H : Hp) (r : R D) (Q : VK) : Prop := match r with
  | .ok (.lst ds) => ∀ a vs I' H', Grow I H I' H' → H a = none → I' a = none → H' a = some (.lst vs) → RdA K I' vs ds → Q (.ref a) H'
  | .ok .non => ∀ I' H', Grow I H I' H' → Q .non H'
  | .er c p => ∀ cls od I' H', Grow I H I' H' → ErrIs K c p cls od I' → W cls od σ H'
  | _ => False
def rdP (K : PySem.W.Frag) (W : WX) (A H0 : Hp) (f : F) : TE := fun σ H Q => ∃ env I, Rel K A H0 env σ I H ∧ PostP K W σ I H (f env) Q
def VP (X : Cx) (W : WX) (A H0 : Hp) (e : Expr) (f : F) : Prop := PE X e (rdP X.K W A H0 f)
section
variable {X : Cx} {W : WX} {A H0 : Hp} {e : Expr} {f : F} {pos : Pos}
theorem vf_of_vp (h : VP X W A H0 e f) : VF X W A H0 e f := pe_imp h fun σ H Q ⟨env, I, r, q⟩ => ⟨env, I, r, by
  cases hf : f env with
  | ok d =>
    rw [hf] at q
    rcases D.lst_or d with ⟨l, rfl⟩ | hd
    · exact q
    · cases d <;> first | exact absurd rfl (hd _) | exact q.elim
  | er c p => rw [hf] at q; exact q
  | no => rw [hf] at q; exact q.elim⟩
/-- a list or None, or nothing -/
def lnD (d : D) : R D := match d with
  | .lst l => .ok (.lst l)
  | .non => .ok .non
  | _ => .no
theorem ve_of_vp (h : VP X W A H0 e f) : VE X W A H0 e (f1 lnD f) := pe_imp h fun σ H Q ⟨env, I, r, q⟩ => ⟨env, I, r, by
  have q0 : PostE X.K W σ I H ((f env).bind lnD) Q := q
  cases hf : f env with
  | ok d =>
    rw [hf] at q0
    cases d <;> try (exact q0.elim)
    · exact fun I' H' g => q0 .non I' H' g .non
    · exact fun a vs I' H' g h0 hi h1 h2 => q0 (.ref a) (upd I' a (.lst vs)) H' (g.add h0 hi h1) (.lst upd_same (h2.mono (Ex.new hi)))
  | er c p => rw [hf] at q0; exact q0
  | no => rw [hf] at q0; exact q0.elim⟩
theorem vs_retNP (he : VE X W A H0 e (fC .non)) : VS X W A H0 true (.Return (some e) pos) (gRet (fC .non)) := ps_imp (ps_ret he) fun Z σ H ⟨env, I, r, q⟩ => ⟨env, I, r, fun v I' H' g k => by
  have q0 : PostR X.K A H0 true .non Z.rt := q
  cases k
  exact q0 I' H' (r.g.trans g)⟩
theorem vs_retP (he : VP X W A H0 e f) : VS X W A H0 true (.Return (some e) pos) (gRet (f1 lnD f)) := ps_imp (ps_ret he) fun Z σ H ⟨env, I, r, q⟩ => ⟨env, I, r, by
  have q0 : PostS X.K W A H0 true I Z (.of env ((f env).bind lnD) fun d => .rt d) := q
  cases hf : f env with
  | ok d =>
    rw [hf] at q0
    cases d <;> try (exact q0.elim)
    · exact fun I' H' g => q0 I' H' (r.g.trans g)
    · exact fun p vs I' H' g h0 hi h1 h2 => q0 p vs I' H' (r.g.trans g) (Evl.fresh_back r.g.h h0) hi h1 h2
  | er c p => rw [hf] at q0; exact fun cls od I' H' g kk => q0 σ I' H' cls od (r.grow g) g.i kk
  | no => rw [hf] at q0; exact q0.elim⟩
end
def spP (K : PySem.W.Frag) (fl : List Bool) (m : List D → R D) : Sp := fun vs H Q E => ∃ ds I, Ex I H ∧ ArgsOk K I H fl vs ds ∧ PostP K (fun cls od _ H' => E cls od H') [] I H (m ds) Q
section
variable {P : Program} {w : World} {K : PySem.W.Frag} {mg : Str → Option Value} {base : Heap}
theorem fn_newP {x qual : Str} {st : Stmt} {f : Addr} {fd : FuncData} {N ps : List Str} {k : Nat} {fl : List Bool} {g : G} (F0 : Fn K x qual st f fd) (S : FnScope N ps (defScope st)) (hfl : fl.length = ps.length := by rfl) (hn : fl.length ≤ N.length := by decide)
    (body : ∀ (cdv : Value) (A : Around) (outer : List PySem.Env) (s : Shared) (H I : Hp) (E : XK), Room k (A.deeper (envOfC qual (defScope st) s.heap.objs.size f cdv)) → Takes (Cb P w K mg base N qual st f cdv A outer s H E) (WB E) →
      PassesOwn (model P w) (A.deeper (envOfC qual (defScope st) s.heap.objs.size f cdv)) (envOfC qual (defScope st) s.heap.objs.size f cdv) (Cb P w K mg base N qual st f cdv A outer s H E).xe → VSs (Cb P w K mg base N qual st f cdv A outer s H E) (WB E) I H true (defBody st) g) :
    FnOk P w K mg base (L2.CX P w) (k + 1) f fd ps (spP K fl (defN N.length fl g)) := by
  refine F0.ok S (fun vs H Q E ⟨_, _, _, a, _⟩ => a.length.trans hfl) fun cdv A outer s H vs Q E hr h => ?_
  obtain ⟨ds, I, ie, ha, q⟩ := h
  refine ⟨_, body cdv A outer s H I E hr (takes_of rfl rfl rfl rfl) (passes_of rfl), env0 N.length fl ds, I, rel0 ie ha hn, ?_⟩
  have hl : ds.length = fl.length := argsLen ha
  have q1 : PostP K (WB E) [] I H (if ds.length = fl.length then outN (g (env0 N.length fl ds)) else .no) Q := q
  rw [if_pos hl] at q1
  cases hg : g (env0 N.length fl ds) with
  | nx e => rw [hg] at q1; exact q1.elim
  | rt d =>
    rw [hg] at q1
    cases d <;> first | exact fun p vs I' H' gg h0 h1 h2 h3 => q1 p vs I' H' gg h0 h1 h2 h3 | exact fun I' H' gg => q1 I' H' gg | exact q1.elim
  | er e c p => rw [hg] at q1; exact fun σ' I' H' cls od r _ kk => q1 cls od I' H' r.g kk
  | bk e => rw [hg] at q1; exact q1.elim
  | ct e => rw [hg] at q1; exact q1.elim
  | no => rw [hg] at q1; exact q1.elim
structure CalP (P : Program) (w : World) (K : PySem.W.Frag) (mg : Str → Option Value) (base : Heap) (x : Str) (k : Nat) (fl : List Bool) (m : List D → R D) : Prop where
  ex : ∃ (f : Addr) (fd : FuncData) (ps : List Str), FnOk P w K mg base (L2.CX P w) k f fd ps (spP K fl m) ∧ mg x = some (.ref f) ∧ PySem.W.keepIn K (.ref f) = true ∧ Binds K fd ps []
end
section
variable {X : Cx} {W : WX} {A H0 : Hp} {e : Expr} {pos : Pos} {x : Str} {j k : Nat} {fl : List Bool} {m : List D → R D} {es : List Expr} {fs : FA} {p : Pos}
theorem vp_cal (C : CalP X.prog X.w X.K X.mg X.base x k fl m) (hr : Room j X.A) (tk : Takes X W) (ha : VA X W A H0 (e :: es) fl fs) (hk : k ≤ j := by decide) (hg : Gl X x := by rfl) (hdb : (x == ("__debug__" : Str)) = false := by decide) (he : starEach (e :: es) X.env = (false, eval e X.env) :: starEach es X.env := by rfl) (hpl : (backTo pos (starEach es X.env)).any (·.1) = false := by rfl) :
    VP X W A H0 (.Call (.Name x p) (e :: es) [] pos) (fA m fs) := by
  obtain ⟨f, fd, ps, Fn, h1, h2, h3⟩ := C.ex
  exact pe_imp (pe_callS Fn (hr.mono hk) hg h1 h2 h3 (fun σ => passAt tk σ) ha hdb he hpl) fun σ H Q ⟨env, I, rl, q⟩ => ⟨env, I, rl, by
    have q1 : PostP X.K W σ I H ((fs env).bind m) Q := q
    cases hs : fs env with
    | ok ds =>
      rw [hs] at q1
      refine fun vs I1 H1 g1 k1 => ⟨ds, I1, g1.ih, k1, ?_⟩
      have q2 : PostP X.K W σ I H (m ds) Q := q1
      cases hmd : m ds with
      | ok d =>
        rw [hmd] at q2
        cases d <;> first | exact fun a vs I2 H2 g2 h0 h1 h2 h3 => q2 a vs I2 H2 (g1.trans g2) (Evl.fresh_back g1.h h0) h1 h2 h3 | exact fun I2 H2 g2 => q2 I2 H2 (g1.trans g2) | exact q2.elim
      | er c p => rw [hmd] at q2; exact fun cls od I2 H2 g2 k2 => q2 cls od I2 H2 (g1.trans g2) k2
      | no => rw [hmd] at q2; exact q2.elim
    | er c p => rw [hs] at q1; exact q1
    | no => rw [hs] at q1; exact q1.elim⟩
end
end BW
/-! BCore34: a, b = x, y. -/
namespace BW
open PySem PySem.Spec PyProof.Rows L2
open Evl (Ex Ex.refl Ex.trans Ex.new ex_rd ex_l ex_t)
def gPar (i j : Nat) (fa fb : F) : G := fun env => .of env (fa env) fun d => .of env (fb env) fun e => .nx ((env.set i (.im d)).set j (.im e))
section
variable {X : Cx} {W : WX} {A H0 : Hp} {fr : Bool} {a b : Expr} {fa fb : F} {pos : Pos}
theorem vs_par (i j : Nat) {x y : Str} {px py pt pt2 : Pos} {kt k2} (hc : X.calm = true) (hN : X.N.Nodup) (ha : VE X W A H0 a fa) (hb : VE X W A H0 b fb) (hi : X.N[i]? = some x := by rfl) (hj : X.N[j]? = some y := by rfl) (hij : i ≠ j := by decide)
    (hx : X.env.scope.names.lookup x = some .local := by rfl) (hy : X.env.scope.names.lookup y = some .local := by rfl)
    (hw : swappedStores [.Tuple [.Name x px, .Name y py] kt pt] (.Tuple [a, b] k2 pt2) X.env = pure (some [x, y]) := by rfl)
    (hs : swapsWithSole [.Tuple [.Name x px, .Name y py] kt pt] (.Tuple [a, b] k2 pt2) pos.line X.env = pure false := by rfl)
    (h1 : starEach [a, b] X.env = (false, eval a X.env) :: starEach [b] X.env := by rfl) (h2 : starEach [b] X.env = (false, eval b X.env) :: starEach [] X.env := by rfl) :
    VS X W A H0 fr (.Assign [.Tuple [.Name x px, .Name y py] kt pt] (.Tuple [a, b] k2 pt2) pos) (gPar i j fa fb) :=
  ps_imp (ps_par hc hN hi hj hij hx hy (pa_cons ha (pa_cons hb pa_nil h2) h1) hw hs) fun Z σ H ⟨env, I, r, q⟩ => ⟨env, I, r, by
    have q0 : PostS X.K W A H0 fr I Z (SR.of env (fa env) fun d => .of env (fb env) fun e => .nx ((env.set i (.im d)).set j (.im e))) := q
    refine of_run r q0 fun d v I1 H1 _ r1 g1 k1 q1 => ⟨env, I1, r1, of_run r1 q1 fun e u I2 H2 _ r2 g2 k2 q2 => ⟨v, u, rfl, ?_⟩⟩
    exact q2 _ I2 H2 ((r2.set_im (k1.mono g2.i)).set_im k2) (Ex.refl _)⟩
end
end BW
/-! BCore35: x.insert(i, y) and x.remove(k) as statements. -/
namespace BW
open PySem PySem.Spec PyProof.Rows L2
open Evl (Ex Ex.refl Ex.trans Ex.new ex_rd ex_l ex_t)
/-- the first place of a number -/
def fIx : List Int → Int → Option Nat
  | [], _ => none
  | a :: r, k => if a = k then some 0 else (fIx r k).map (· + 1)
theorem fIx_some : ∀ {l : List Int} {k : Int} {j : Nat}, fIx l k = some j → l[j]? = some k ∧ ∀ m : Nat, m < j → l[m]? ≠ some k
  | [], _, _, h => by cases h
  | a :: r, k, j, h => by
    unfold fIx at h
    by_cases e : a = k
    · rw [if_pos e] at h
      cases h
      exact ⟨by rw [e]; rfl, fun m hm => absurd hm (Nat.not_lt_zero _)⟩
    · rw [if_neg e] at h
      cases hr : fIx r k with
      | none => rw [hr] at h; cases h
      | some i =>
        rw [hr] at h
        cases h
        obtain ⟨h1, h2⟩ := fIx_some hr
        refine ⟨h1, fun m hm => ?_⟩
        cases m with
        | zero => exact fun z => e (Option.some.inj z)
        | succ m => exact h2 m (Nat.lt_of_succ_lt_succ hm)
def kRem (l : List D) (d : D) : Option (List D) := match intsD l, d with
  | some ns, .int k => (fIx ns k).map fun j => (ns.eraseIdx j).map D.int
  | _, _ => none
theorem mo_rem {K : PySem.W.Frag} : MutOp rRemI K kRem := by
  intro a vs v l m d I H Q h1 h2 ie h3 h4 q
  unfold kRem at h4
  cases hn : intsD l with
  | none => rw [hn] at h4; cases h4
  | some ns =>
    rw [hn] at h4
    cases d <;> try (cases h4; done)
    rename_i k
    have h4 : (fIx ns k).map (fun j => (ns.eraseIdx j).map D.int) = some m := h4
    cases hj : fIx ns k with
    | none => rw [hj] at h4; cases h4
    | some j =>
      rw [hj] at h4
      cases h4
      obtain ⟨e1, e2⟩ := fIx_some hj
      have hv := (ints_rd h2 hn).1
      exact ⟨a, ns, k, j, rfl, by rw [h3.int_inv], by rw [h1, hv], e1, e2, q _ RdA.ints⟩
def gIns (i : Nat) (fa fb : F) : G := fun env => match env[i]? with
  | some (.mu l) => .of env (fa env) fun
    | .int n => .of env (fb env) fun d => if 0 ≤ n ∧ n < 2 ^ 62 ∧ l.length < sizeLine then .nx (env.set i (.mu (l.take n.toNat ++ [d] ++ l.drop n.toNat))) else .no
    | _ => .no
  | _ => .no
section
variable {X : Cx} {W : WX} {A H0 : Hp} {fr : Bool} {a b : Expr} {fa fb : F} {pos : Pos}
theorem vs_ins (i : Nat) {x : Str} {p apos : Pos} (ha : VE X W A H0 a fa) (hb : VE X W A H0 b fb)
    (hN : X.N[i]? = some x := by rfl) (hv : Vis X.env.scope x := by first | exact Or.inl rfl | exact Or.inr (Or.inl rfl) | exact Or.inr (Or.inr rfl)) (hd : (x == ("__debug__" : Str)) = false := by decide) (hcd : (x == ("__classdict__" : Str)) = false := by decide)
    (hs1 : starEach (a :: [b]) X.env = (false, eval a X.env) :: starEach [b] X.env := by rfl) (hs2 : starEach (b :: []) X.env = (false, eval b X.env) :: starEach [] X.env := by rfl)
    (hbase : attributeBase (.Name x p) "insert" X.env (eval (.Name x p) X.env) = eval (.Name x p) X.env := by rfl)
    {cpos : Pos} (hfew : ((backTo cpos (starEach (a :: [b]) X.env)).all (fun x => !x.1) && (backToKw cpos (keywordEach [] X.env)).all (fun x => x.1.isSome) && decide ((a :: [b]).length + ([] : List Keyword).length + (if ([] : List Keyword).isEmpty then 0 else 1) < 30)) = true := by rfl)
    (hline : (apos.endLine == cpos.line) = true := by rfl) (hplain : (backTo cpos (starEach [b] X.env)).any (·.1) = false := by rfl)
    (hs : swapsWith (.Call (.Attribute (.Name x p) "insert" apos) [a, b] [] cpos) none pos.line X.env = pure false := by rfl) :
    VS X W A H0 fr (.Expr (.Call (.Attribute (.Name x p) "insert" apos) [a, b] [] cpos) pos) (gIns i fa fb) :=
  ps_imp (ps_expr (pe_bm PySem.F.plainAttrs_list PySem.F.slot_list_insert PySem.F.type_list_insert mt_insert (pe_var hN hv hd hcd) (pa_cons ha (pa_cons hb pa_nil hs2) hs1) hbase hfew hline hs1 hplain) hs) fun Z σ H ⟨env, I, rl, q⟩ => by
    unfold gIns at q
    cases he : env[i]? with
    | none => rw [he] at q; exact q.elim
    | some sl =>
      rw [he] at q
      cases sl with
      | mu l =>
        obtain ⟨ad, vs, h1, h2, h3, h4, h5⟩ := rl.mu i l he
        have q0 : PostS X.K W A H0 fr I Z (SR.of env (fa env) fun
          | .int n => .of env (fb env) fun d => if 0 ≤ n ∧ n < 2 ^ 62 ∧ l.length < sizeLine then .nx (env.set i (.mu (l.take n.toNat ++ [d] ++ l.drop n.toNat))) else .no
          | _ => .no) := q
        refine ⟨.ref ad, h1, ty_lst h2, env, I, rl, of_run rl q0 fun dn v I1 H1 _ r1 g1 k1 q1 => ?_⟩
        cases dn <;> try (exact q1.elim)
        rename_i n hq
        refine ⟨env, I1, r1, of_run r1 q1 fun d u I2 H2 _ r2 g2 k2 q2 => ?_⟩
        have q3 : PostS X.K W A H0 fr I2 Z (if 0 ≤ n ∧ n < 2 ^ 62 ∧ l.length < sizeLine then .nx (env.set i (.mu (l.take n.toNat ++ [d] ++ l.drop n.toNat))) else .no) := q2
        by_cases hz : 0 ≤ n ∧ n < 2 ^ 62 ∧ l.length < sizeLine
        · rw [if_pos hz] at q3
          have h5' := h5.mono (g1.trans g2).i
          refine ⟨ad, vs, n, u, rfl, by rw [k1.int_inv], (g1.trans g2).h _ _ h2, by rw [h5.length]; exact hz.2.2, hz.1, by omega, ?_⟩
          exact q3 σ I2 _ (r2.chg he h1 (((h5'.take _).append (.cons k2 .nil)).append (h5'.drop _))) (Ex.refl _)
        · rw [if_neg hz] at q3; exact q3.elim
      | _ => exact q.elim
end
end BW
/-! BCore36: a name's own list lent to a list comprehension that is stored. -/
namespace BW
open PySem PySem.Spec PyProof.Rows L2
open Evl (Ex Ex.refl Ex.trans Ex.new ex_rd ex_l ex_t)
def fLendF (i : Nat) (f : F) : F := fun env => (f (frzE i env)).bind lfL
theorem back_no {I J J' : Hp} {a : Addr} (ij : Ex I J') (h : J' a = none) : back I J J' a = none := by
  unfold back
  cases q : I a with
  | some o => have := ij _ _ q; rw [h] at this; cases this
  | none =>
    cases J a with
    | some _ => rfl
    | none => exact h
theorem lend_postF {K : PySem.W.Frag} {W : WX} {σ : L2.St} {I I' H : Hp} {r : R D} {Q : VK} (ih : Ex I H) (ij : Ex I I') (jh : Ex I' H) (hl : ∀ b o, I' b = some o → I b = some o ∨ ∃ us, o = .lst us) (q : PostF K W σ I H (r.bind lfL) Q) : PostF K W σ I' H r Q := by
  cases r with
  | no => exact q.elim
  | er c p => exact fun cls od J' H' g k => q cls od _ H' (back_growJ ij ih jh g) (k.back ij g.i hl)
  | ok d =>
    rcases D.lst_or d with ⟨l, rfl⟩ | hd
    · have q3 : PostF K W σ I H (if lfA l then R.ok (.lst l) else R.no) Q := q
      by_cases z : lfA l = true
      · rw [if_pos z] at q3
        exact fun a vs J' H' g h0 h1 h2 h3 => q3 a vs _ H' (back_growJ ij ih jh g) h0 (back_no (ij.trans g.i) h1) h2 (h3.back ij g.i hl z)
      · rw [if_neg z] at q3
        exact q3.elim
    · cases d <;> first | exact absurd rfl (hd _) | exact q.elim
theorem lendF_run {K : PySem.W.Frag} {W : WX} {A H0 : Hp} {f : F} (i : Nat) {σ : L2.St} {H : Hp} {Q : VK} (h : rdF K W A H0 (fLendF i f) σ H Q) : rdF K W A H0 f σ H Q := by
  obtain ⟨env, I, r, q⟩ := h
  have q0 : PostF K W σ I H ((f (frzE i env)).bind lfL) Q := q
  unfold frzE at q0
  cases he : env[i]? with
  | none => rw [he] at q0; exact ⟨env, I, r, lend_postF r.g.ih (Ex.refl _) r.g.ih (fun _ _ z => .inl z) q0⟩
  | some s =>
    rw [he] at q0
    cases s with
    | mu l =>
      obtain ⟨I', e', hl, r'⟩ := r.freezeL he
      exact ⟨_, I', r', lend_postF r.g.ih e' r'.g.ih hl q0⟩
    | _ => exact ⟨env, I, r, lend_postF r.g.ih (Ex.refl _) r.g.ih (fun _ _ z => .inl z) q0⟩
section
variable {X : Cx} {W : WX} {A H0 : Hp} {fr : Bool} {a b c e tg : Expr} {fa fb fc fi f : F} {pos : Pos} {st : Stmt} {rest : List Stmt} {g g1 g2 : G}
theorem vs_setLcE (i j : Nat) {y : Str} {py : Pos} {elt iter : Expr} {ifs : List Expr} {scope : Scope} {own : List (Str × Nat)} {lpos : Pos} {ft fe : F} {t : FT} {ts : List Nat} (hc : X.calm = true) (hN : X.N.Nodup) (hi : VI X W A H0 tg iter fi) (ok : BlkOk X.N X.env.scope scope own)
    (hg : ∀ (s : Shared) (H : Hp) (C : Addr) (cl : List (Str × Addr)) (fp : List Addr), VG (X.blk s H scope (compEnvC scope cl C X.env) fp) A H0 tg ts t) (ht : ∀ (s : Shared) (H : Hp) (C : Addr) (cl : List (Str × Addr)) (fp : List Addr), VTs (X.blk s H scope (compEnvC scope cl C X.env) fp) WF A H0 ifs ft)
    (he : ∀ (s : Shared) (H : Hp) (C : Addr) (cl : List (Str × Addr)) (fp : List Addr), VE (X.blk s H scope (compEnvC scope cl C X.env) fp) WF A H0 elt fe) (hts : ts.all (fun j => (own.map (·.2)).contains j) = true := by rfl)
    (hsw : swapsWith (.ListComp elt [⟨tg, iter, ifs, 0⟩] scope lpos) (some (.Name y py)) pos.line X.env = pure true := by exact sw_true rfl rfl rfl (by decide +kernel)) (hy : X.N[i]? = some y := by rfl) (hyl : X.env.scope.names.lookup y = some .local := by rfl) (hs : ∀ x, foldedSetIterable iter X.env x = pure x := by intro _; rfl) :
    VS X W A H0 fr (.Assign [.Name y py] (.ListComp elt [⟨tg, iter, ifs, 0⟩] scope lpos) pos) (gSetM i (fLendF j (fLc fi t ft fe (own.map (·.2))))) :=
  ps_imp (ps_setLc (g := rdG X.K A H0 ts t) (tt := rdT X.K WF A H0 ft) (te := rdE X.K WF A H0 fe) hc hN hy hyl hsw hi ok hg ht he hs) fun Z σ H h => lc_run hts (lendF_run j (setM_run h))
theorem vs_setLcIE (i j : Nat) {y : Str} {py : Pos} {elt iter : Expr} {ifs : List Expr} {scope : Scope} {own : List (Str × Nat)} {lpos : Pos} {ft fe : F} {t : FT} {ts : List Nat} (hc : X.calm = true) (hN : X.N.Nodup) (hi : VI X W A H0 tg iter fi) (ok : BlkOk X.N X.env.scope scope own)
    (hg : ∀ (s : Shared) (H : Hp) (C : Addr) (cl : List (Str × Addr)) (fp : List Addr), VG (X.blk s H scope (compEnvC scope cl C X.env) fp) A H0 tg ts t) (ht : ∀ (s : Shared) (H : Hp) (C : Addr) (cl : List (Str × Addr)) (fp : List Addr), VTs (X.blk s H scope (compEnvC scope cl C X.env) fp) WF A H0 ifs ft)
    (he : ∀ (s : Shared) (H : Hp) (C : Addr) (cl : List (Str × Addr)) (fp : List Addr), VE (X.blk s H scope (compEnvC scope cl C X.env) fp) WF A H0 elt fe) (hts : ts.all (fun j => (own.map (·.2)).contains j) = true := by rfl)
    (hsw : swapsWith (.ListComp elt [⟨tg, iter, ifs, 0⟩] scope lpos) (some (.Name y py)) pos.line X.env = pure true := by exact sw_true rfl rfl rfl (by decide +kernel)) (hy : X.N[i]? = some y := by rfl) (hyl : X.env.scope.names.lookup y = some .local := by rfl) (hs : ∀ x, foldedSetIterable iter X.env x = pure x := by intro _; rfl) :
    VS X W A H0 fr (.Assign [.Name y py] (.ListComp elt [⟨tg, iter, ifs, 0⟩] scope lpos) pos) (gSet i (fLs (fLendF j (fLc fi t ft fe (own.map (·.2)))))) :=
  ps_imp (ps_setLc (g := rdG X.K A H0 ts t) (tt := rdT X.K WF A H0 ft) (te := rdE X.K WF A H0 fe) hc hN hy hyl hsw hi ok hg ht he hs) fun Z σ H ⟨env, I, r, q⟩ => lc_run hts (lendF_run j ⟨env, I, r, by
    have q0 : PostS X.K W A H0 fr I Z (.of env ((fLendF j (fLc fi t ft fe (own.map (·.2))) env).bind lsD) fun d => .nx (env.set i (.im d))) := q
    cases hf : fLendF j (fLc fi t ft fe (own.map (·.2))) env with
    | ok d =>
      rw [hf] at q0
      rcases D.lst_or d with ⟨l, rfl⟩ | hd
      · exact fun p vs I' H' g h0 hi' h1 h2 => q0 _ (upd I' p (.lst vs)) H' ((r.grow (g.add h0 hi' h1)).set_im (.lst upd_same (h2.mono (Ex.new hi')))) (g.add h0 hi' h1).i
      · cases d <;> first | exact absurd rfl (hd _) | exact q0.elim
    | er c p => rw [hf] at q0; exact fun cls od I' H' g kk => q0 σ I' H' cls od (r.grow g) g.i kk
    | no => rw [hf] at q0; exact q0.elim⟩)
end
end BW
/-! BCore37: max and min of three whole numbers. -/
namespace BW
open PySem PySem.Spec PyProof.Rows L2
open Evl (Ex Ex.refl Ex.trans)
def max3D : List D → R D
  | [.int i, .int j, .int k] => .ok (.int (max (max i j) k))
  | _ => .no
def min3D : List D → R D
  | [.int i, .int j, .int k] => .ok (.int (min (min i j) k))
  | _ => .no
section
variable {K : PySem.W.Frag}
theorem three_ofD {α : Type} {l : List α} (h : 3 = l.length) : ∃ x y z, l = [x, y, z] := match l, h with
  | [x, y, z], _ => ⟨x, y, z, rfl⟩
theorem gc3 {r : List V → Hp → VK → Prop} {g : List D → R D} (h : ∀ (v u w : V) (x y z d : D) (H : Hp) (Q : VK), Rd K H v x → Rd K H u y → Rd K H w z → g [x, y, z] = .ok d → ∃ s, d.sc = some s ∧ (Q s H → r [v, u, w] H Q)) : GC K r [false, false, false] g := by
  intro vs ds d I H Q ih ha e q
  obtain ⟨x, y, z, rfl⟩ := three_ofD (argsLen ha).symm
  obtain ⟨v, u, w, rfl, hv, hu, hw⟩ : ∃ v u w, vs = [v, u, w] ∧ Rd K H v x ∧ Rd K H u y ∧ Rd K H w z := by
    cases ha with
    | lo a1 a2 =>
      cases a2 with
      | lo a3 a4 =>
        cases a4 with
        | lo a5 a6 =>
          cases a6
          exact ⟨_, _, _, rfl, a1, a3, a5⟩
  obtain ⟨s, e1, k⟩ := h v u w x y z d H Q hv hu hw e
  exact k (q s I H (Grow.refl ih) (.of_sc e1))
theorem gc_max3 : GC K (rNuC3 nuMax3) [false, false, false] max3D := gc3 fun v u w x y z d H Q hv hu hw e => by
  cases x <;> try (cases e; done)
  cases y <;> try (cases e; done)
  cases z <;> try (cases e; done)
  rename_i i j k
  rw [hv.int_inv, hu.int_inv, hw.int_inv, ← ok_inj e]
  refine ⟨_, rfl, fun q => ⟨_, _, _, .int (max (max i j) k), rfl, ?_, q⟩⟩
  have h2 : ∀ a b : Int, nuMax2 (.int a) (.int b) = some (.int (max a b)) := fun a b => by
    show some (if decide (a < b) = true then V.int b else V.int a) = _
    by_cases h : a < b
    · rw [decide_eq_true h, if_pos rfl, Int.max_eq_right (by omega)]
    · rw [decide_eq_false h, if_neg (by decide), Int.max_eq_left (by omega)]
  show (nuMax2 (.int i) (.int j)).bind (fun m => nuMax2 m (.int k)) = _
  rw [h2]
  exact h2 _ _
theorem gc_min3 : GC K (rNuC3 nuMin3) [false, false, false] min3D := gc3 fun v u w x y z d H Q hv hu hw e => by
  cases x <;> try (cases e; done)
  cases y <;> try (cases e; done)
  cases z <;> try (cases e; done)
  rename_i i j k
  rw [hv.int_inv, hu.int_inv, hw.int_inv, ← ok_inj e]
  refine ⟨_, rfl, fun q => ⟨_, _, _, .int (min (min i j) k), rfl, ?_, q⟩⟩
  have h2 : ∀ a b : Int, nuMin2 (.int a) (.int b) = some (.int (min a b)) := fun a b => by
    show some (if decide (b < a) = true then V.int b else V.int a) = _
    by_cases h : b < a
    · rw [decide_eq_true h, if_pos rfl, Int.min_eq_right (by omega)]
    · rw [decide_eq_false h, if_neg (by decide), Int.min_eq_left (by omega)]
  show (nuMin2 (.int i) (.int j)).bind (fun m => nuMin2 m (.int k)) = _
  rw [h2]
  exact h2 _ _
theorem nea_max3 : NoErA max3D := fun ds c p => by
  unfold max3D
  repeat' split
  all_goals exact fun z => nomatch z
theorem nea_min3 : NoErA min3D := fun ds c p => by
  unfold min3D
  repeat' split
  all_goals exact fun z => nomatch z
end
end BW
/-! BCore38: x[a:b] = [..] of a name's own list; x.index(y) of whole numbers. -/
namespace BW
open PySem PySem.Spec PyProof.Rows L2
open Evl (Ex Ex.refl Ex.trans)
/-- a store into a slice -/
def gSubSl (to : TE) (tl th : TO) : TG := fun v σ H Q => to σ H fun x H1 => tl σ H1 fun l H2 => th σ H2 fun u H3 => ∃ b p xs ys a c, v = .ref b ∧ x = .ref p ∧ l = some a ∧ u = some c ∧ H3 p = some (.lst xs) ∧ H3 b = some (.lst ys) ∧ p ≠ b ∧ 0 ≤ a ∧ a ≤ c ∧ c ≤ (xs.length : Int) ∧ xs.length + ys.length ≤ sizeLine ∧ Q σ (upd H3 p (.lst (xs.take a.toNat ++ ys ++ xs.drop c.toNat)))
theorem pg_subSl {X : Cx} {o : Expr} {lo hi : Option Expr} {to : TE} {tl th : TO} {p2 pos : Pos} (ho : PE X o to) (hl : PO X lo tl) (hu : PO X hi th)
    (ha : ∀ v, assign (.Subscript o (.Slice lo hi none p2) pos) X.env v = (do
      let ov ← holding [v] (eval o X.env)
      let iv ← holding [v, ov] (eval (.Slice lo hi none p2) X.env)
      standAt pos
      holding [v, ov, iv] (setItem ov iv v)
      release [iv, v, ov] []) := by intro _; rfl) : PG X (.Subscript o (.Slice lo hi none p2) pos) (gSubSl to tl th) := by
  refine ⟨fun pins s σ H v u Q I r h => ?_⟩
  rw [ha]
  refine wpAny_bind (wpAny_holding (thn (ho.run pins s σ H _ I h) fun ov s1 ⟨x, H1, I1, r1, q1⟩ => ?_))
  refine wpAny_bind (wpAny_holding ?_)
  refine wpAny_Slice (thn (hl.run pins s1 σ H1 _ I1 q1) fun vl s2 ⟨l, H2, I2, pl, q2⟩ => thn (hu.run pins s2 σ H2 _ I2 q2) fun vu s3 ⟨w, H3, I3, pu, q3⟩ => ?_)
  rw [evalPart_none]
  refine wpAny_pure ?_
  have I4 : Inv X pins σ H3 { s3 with heap := s3.heap.push { cls := .type "slice", data := .fields #[vl, vu, .none] } } := I3.kept (t' := s3.toks) fun b ob q => Heap.get?_push_of_some _ q
  obtain ⟨b, p, xs, ys, a, c, rfl, rfl, rfl, rfl, h1, h2, hne, h0, hac, hc, hz, q⟩ := q3
  cases r
  cases r1
  cases pl
  cases pu
  refine wpAny_bind (wpAny_standAt (wpAny_bind (wpAny_holding ?_)))
  refine set_slice I4 h1 h2 hne (Heap.IsSliceOf.new ..) ⟨_, rfl⟩ ⟨_, rfl⟩ h0 hac hc hz fun s5 I5 => ?_
  exact wpAny_release ⟨σ, _, I5, q⟩
def gSetSl (i : Nat) (fl fh f : F) : G := fun env => match env[i]? with
  | some (.mu l) => .of env (f env) fun
    | .lst ys => .of env (fl env) fun
      | .int a => .of env (fh env) fun
        | .int c => if 0 ≤ a ∧ a ≤ c ∧ c ≤ (l.length : Int) ∧ l.length + ys.length ≤ sizeLine then .nx (env.set i (.mu (l.take a.toNat ++ ys ++ l.drop c.toNat))) else .no
        | _ => .no
      | _ => .no
    | _ => .no
  | _ => .no
section
variable {X : Cx} {W : WX} {A H0 : Hp} {fr : Bool} {a b e : Expr} {fa fb f : F} {pos : Pos}
theorem RdA.takeD {K : PySem.W.Frag} {I : Hp} {vs : List V} {ds : List D} (h : RdA K I vs ds) (n : Nat) : RdA K I (vs.take n) (ds.take n) := h.take n
theorem vs_setSl (i : Nat) {x : Str} {p tp p2 : Pos} (he : VF X W A H0 e f) (hl : VE X W A H0 a fa) (hh : VE X W A H0 b fb)
    (hN : X.N[i]? = some x := by rfl) (hv : Vis X.env.scope x := by first | exact Or.inl rfl | exact Or.inr (Or.inl rfl) | exact Or.inr (Or.inr rfl)) (hd : (x == ("__debug__" : Str)) = false := by decide) (hcd : (x == ("__classdict__" : Str)) = false := by decide)
    (hpg : ∀ {to : TE} {tl th : TO}, PE X (.Name x p) to → PO X (some a) tl → PO X (some b) th → PG X (.Subscript (.Name x p) (.Slice (some a) (some b) none p2) tp) (gSubSl to tl th) := by intro _ _ _ h1 h2 h3; exact pg_subSl h1 h2 h3)
    (hs : swapsWithSole [.Subscript (.Name x p) (.Slice (some a) (some b) none p2) tp] e pos.line X.env = pure false := by rfl) (hw : swappedStores [.Subscript (.Name x p) (.Slice (some a) (some b) none p2) tp] e X.env = pure none := by rfl)
    (h1 : (assignEach [.Subscript (.Name x p) (.Slice (some a) (some b) none p2) tp] X.env).map (·.2) = [assign (.Subscript (.Name x p) (.Slice (some a) (some b) none p2) tp) X.env] := by rfl) :
    VS X W A H0 fr (.Assign [.Subscript (.Name x p) (.Slice (some a) (some b) none p2) tp] e pos) (gSetSl i fa fb f) :=
  ps_imp (ps_asg he (hpg (pe_var hN hv hd hcd) (po_some hl) (po_some hh)) hs hw h1) fun Z σ H ⟨env, I, rl, q⟩ => by
    unfold gSetSl at q
    cases he : env[i]? with
    | none => rw [he] at q; exact q.elim
    | some sl =>
      rw [he] at q
      cases sl with
      | mu l =>
        obtain ⟨ad, vs, h1, h2, h3, h4, h5⟩ := rl.mu i l he
        have q0 : PostS X.K W A H0 fr I Z (SR.of env (f env) fun
          | .lst ys => .of env (fa env) fun
            | .int a => .of env (fb env) fun
              | .int c => if 0 ≤ a ∧ a ≤ c ∧ c ≤ (l.length : Int) ∧ l.length + ys.length ≤ sizeLine then .nx (env.set i (.mu (l.take a.toNat ++ ys ++ l.drop c.toNat))) else .no
              | _ => .no
            | _ => .no
          | _ => .no) := q
        refine ⟨env, I, rl, of_runF rl (fun d hd => by cases d <;> first | rfl | exact absurd rfl (hd _)) q0 fun ys bp us I1 H1 hq1 r1 g1 hp0 hip hp hk q1 => ?_⟩
        refine ⟨.ref ad, h1, env, I1, r1, of_run r1 q1 fun d2 v2 I2 H2 hq2 r2 g2 k2 q2 => ?_⟩
        cases d2 <;> try (exact q2.elim)
        rename_i av
        refine ⟨av, by rw [k2.int_inv], env, I2, r2, of_run r2 q2 fun d3 v3 I3 H3 hq3 r3 g3 k3 q3 => ?_⟩
        cases d3 <;> try (exact q3.elim)
        rename_i cv
        have q4 : PostS X.K W A H0 fr I3 Z (if 0 ≤ av ∧ av ≤ cv ∧ cv ≤ (l.length : Int) ∧ l.length + ys.length ≤ sizeLine then .nx (env.set i (.mu (l.take av.toNat ++ ys ++ l.drop cv.toNat))) else .no) := q3
        by_cases hz : 0 ≤ av ∧ av ≤ cv ∧ cv ≤ (l.length : Int) ∧ l.length + ys.length ≤ sizeLine
        · rw [if_pos hz] at q4
          have hne : ad ≠ bp := fun z => by rw [z] at h2; rw [h2] at hp0; cases hp0
          have h5' := ((h5.mono g1.i).mono g2.i).mono g3.i
          have hk' := (hk.mono g2.i).mono g3.i
          refine ⟨cv, by rw [k3.int_inv], bp, ad, vs, us, av, cv, rfl, rfl, rfl, rfl, g3.h _ _ (g2.h _ _ (g1.h _ _ h2)), g3.h _ _ (g2.h _ _ hp), hne, hz.1, hz.2.1, by rw [h5.length]; exact hz.2.2.1, by rw [h5.length, hk.length]; exact hz.2.2.2, ?_⟩
          exact q4 σ I3 _ (r3.chg he h1 (((h5'.take _).append hk').append (h5'.drop _))) (Ex.refl _)
        · rw [if_neg hz] at q4; exact q4.elim
      | _ => exact q.elim
/-! x.index(y) -/
theorem RdA.two {K : PySem.W.Frag} {I : Hp} : ∀ {vs : List V} {ds : List D}, RdA K I vs ds → ∀ {j : Nat} {v : V}, vs[j]? = some v → ∃ d, ds[j]? = some d ∧ Rd K I v d
  | _, _, .nil, j, v, h => by simp at h
  | _, _, .cons h q, 0, v, e => by
    cases (show some _ = some v from e)
    exact ⟨_, rfl, h⟩
  | _, _, .cons h q, j + 1, v, e => RdA.two q (show _ = some v from e)
theorem allSc_at {l : List D} (h : allSc l = true) {j : Nat} {d : D} (e : l[j]? = some d) : d.sc.isSome = true := by
  induction l generalizing j with
  | nil => simp at e
  | cons a r ih =>
    obtain ⟨h1, h2⟩ := Bool.and_eq_true_iff.mp (show (a.sc.isSome && allSc r) = true from h)
    cases j with
    | zero => cases (show some a = some d from e); exact h1
    | succ j => exact ih h2 (show r[j]? = some d from e)
def idxD (x y : D) : R D := match x with
  | .lst l => if y.sc.isSome && allSc l then (match l.findIdx? (fun z => eqS z y) with
    | some j => .ok (.int (j : Nat))
    | none => .no) else .no
  | _ => .no
theorem ve_idxL {apos cpos : Pos} (ha : VL X W A H0 a fa) (hb : VE X W A H0 b fb)
    (hbase : attributeBase a "index" X.env (eval a X.env) = eval a X.env := by rfl)
    (hfew : ((backTo cpos (starEach [b] X.env)).all (fun x => !x.1) && (backToKw cpos (keywordEach [] X.env)).all (fun x => x.1.isSome)
      && decide ([b].length + ([] : List Keyword).length + (if ([] : List Keyword).isEmpty then 0 else 1) < 30)) = true := by rfl)
    (hline : (apos.endLine == cpos.line) = true := by rfl) (hs : starEach [b] X.env = (false, eval b X.env) :: starEach [] X.env := by rfl) (hplain : (backTo cpos (starEach [] X.env)).any (·.1) = false := by rfl) :
    VE X W A H0 (.Call (.Attribute a "index" apos) [b] [] cpos) (f2 idxD (fLs fa) fb) :=
  pe_imp (pe_bm PySem.F.plainAttrs_list PySem.F.slot_list_index PySem.F.type_list_index mt_index ha (pa_cons hb pa_nil hs) hbase hfew hline hs hplain) fun σ H Q ⟨env, I, rl, q⟩ => ⟨env, I, rl, by
    have q0 : PostE X.K W σ I H (((fa env).bind lsD).bind fun x => (fb env).bind fun y => idxD x y) Q := q
    cases hf : fa env with
    | er c p => rw [hf] at q0; exact q0
    | no => rw [hf] at q0; exact q0.elim
    | ok d =>
      rw [hf] at q0
      rcases D.lst_or d with ⟨l, rfl⟩ | hd
      · have q1 : PostE X.K W σ I H ((fb env).bind fun y => idxD (.lst l) y) Q := q0
        intro a vs I1 H1 g1 hH h2
        refine ⟨.inl ⟨rfl, vs, .inl (.inl hH)⟩, env, I1, rl.grow g1, ?_⟩
        cases hs2 : fb env with
        | er c p => rw [hs2] at q1; exact fun cls od I2 H2 g2 k2 => q1 cls od I2 H2 (g1.trans g2) k2
        | no => rw [hs2] at q1; exact q1.elim
        | ok e =>
          rw [hs2] at q1
          intro w I2 H2 g2 k2
          have q2 : PostE X.K W σ I H (if e.sc.isSome && allSc l then (match l.findIdx? (fun z => eqS z e) with
            | some j => R.ok (D.int (j : Nat))
            | none => .no) else .no) Q := q1
          by_cases hc : (e.sc.isSome && allSc l) = true
          · rw [if_pos hc] at q2
            obtain ⟨c1, c2⟩ := Bool.and_eq_true_iff.mp hc
            cases hj : l.findIdx? (fun z => eqS z e) with
            | none => rw [hj] at q2; exact q2.elim
            | some j =>
              rw [hj] at q2
              obtain ⟨e0, e1, e2⟩ := List.findIdx?_eq_some_iff_getElem.mp hj
              have hjv : j < vs.length := by rw [h2.length]; exact e0
              have hz : vs[j]? = some vs[j] := List.getElem?_eq_getElem hjv
              obtain ⟨d, hd1, hd2⟩ := RdA.two h2 hz
              have hde : d = l[j] := by rw [List.getElem?_eq_getElem e0] at hd1; exact (Option.some.inj hd1).symm
              refine ⟨a, vs, w, j, vs[j], rfl, rfl, .inl (.inl (g2.h _ _ hH)), (sc_flat k2 c1).1, sc_flats h2 c2, hz, ?_, fun m z' hm hz' => ?_, q2 _ I2 H2 (g1.trans g2) .int⟩
              · rw [sc_eqV hd2 k2 (allSc_at c2 hd1) c1, hde]
                exact e1
              · obtain ⟨d', hd3, hd4⟩ := RdA.two h2 hz'
                have hml : m < l.length := Nat.lt_trans hm e0
                have hde' : d' = l[m] := by rw [List.getElem?_eq_getElem hml] at hd3; exact (Option.some.inj hd3).symm
                rw [sc_eqV hd4 k2 (allSc_at c2 hd3) c1, hde']
                have := e2 m hm
                simpa using this
          · rw [if_neg hc] at q2; exact q2.elim
      · cases d <;> first | exact absurd rfl (hd _) | exact q0.elim⟩
end
end BW
/-! BCore39: for .. in reversed(x) of a told list. -/
namespace BW
open PySem PySem.Spec PyProof.Rows L2
open Evl (Ex Ex.refl Ex.trans Ex.new ex_rd ex_l ex_t)
section
variable {K : PySem.W.Frag} {I : Hp} {a : Addr} {vs : List V} {ds : List D}
theorem serves_rev (h1 : SqL K I a vs) (h2 : RdA K I vs ds) : Serves K (Itv K a vs.length) ds.reverse I := by
  have w := walk_rev (K := K) (a := a) (xs := vs)
  unfold Serves
  rw [List.length_reverse, ← h2.length]
  exact w.mono (fun H' e => ex_l e h1) fun i H' x H'' hi e y => by
    obtain ⟨d, k1, k2⟩ := h2.getV y.2
    refine ⟨d, ?_, .inl ⟨y.1, k2⟩⟩
    rw [List.getElem?_reverse (by rw [← h2.length]; exact hi), ← h2.length]
    exact k1
end
section
variable {X : Cx} {W : WX} {A H0 : Hp} {e tg : Expr} {f : F} {pos : Pos}
theorem vi_revT {p : Pos} (hm : X.mg "reversed" = none) (he : VE X W A H0 e f) (hg : Gl X "reversed" := by rfl) (hs : starEach [e] X.env = (false, eval e X.env) :: starEach [] X.env := by rfl) : VI X W A H0 tg (.Call (.Name "reversed" p) [e] [] pos) (f1 revS f) :=
  pi_imp (RT.pi_revA hg hm he hs) fun σ H R ⟨env, I, rl, q⟩ => ⟨env, I, rl, by
    have q1 : PostI X.K W σ I H ((f env).bind revS) R := q
    cases hf : f env with
    | ok d =>
      rw [hf] at q1
      intro v I' H' g k
      cases k <;> try (exact q1.elim)
      · rename_i h1 h2
        exact ⟨_, _, rfl, .inl ⟨.inl (.inl (g.ih _ _ h1)), q1 _ I' H' g (serves_rev (.inl (.inl h1)) h2)⟩⟩
      · rename_i a l h1
        have q2 : PostI X.K W σ I H (.ok (.lst (l.reverse.map D.int))) R := q1
        rw [List.map_reverse] at q2
        exact ⟨_, _, rfl, .inl ⟨ex_l g.ih h1, q2 _ I' H' g (serves_rev h1 RdA.ints)⟩⟩
    | er c p => rw [hf] at q1; exact q1
    | no => rw [hf] at q1; exact q1.elim⟩
end
end BW
/-! BCore40: a < b < c of whole numbers. -/
namespace BW
open PySem PySem.Spec PyProof.Rows L2
open Evl (Ex Ex.refl Ex.trans Ex.new ex_rd ex_l ex_t)
def fCh (p q : Int → Int → Bool) (fa fb fc : F) : F := fun env => (fa env).bind fun
  | .int i => (fb env).bind fun
    | .int j => cond (p i j) ((fc env).bind fun
      | .int k => .ok (.bl (q j k))
      | _ => .no) (.ok (.bl false))
    | _ => .no
  | _ => .no
section
variable {X : Cx} {W : WX} {A H0 : Hp} {a b c : Expr} {fa fb fc : F} {pos : Pos} {op op' : CmpOp} {p q : Int → Int → Bool}
theorem ve_chain (ho : OpR X (compareOp op) (rI0 fun i j => .bl (p i j))) (ho' : OpR X (compareOp op') (rI0 fun i j => .bl (q i j))) (ha : VE X W A H0 a fa) (hb : VE X W A H0 b fb) (hc : VE X W A H0 c fc)
    (hm : lastMarks [op, op'] [b, c] = false := by with_unfolding_all rfl) : VE X W A H0 (.Compare a [op, op'] [b, c] pos) (fCh p q fa fb fc) :=
  pe_imp (pe_chain ho ho' ha hb hc hm) fun σ H Q ⟨env, I, rl, z⟩ => ⟨env, I, rl, by
    have z0 : PostE X.K W σ I H ((fa env).bind fun
      | .int i => (fb env).bind fun
        | .int j => cond (p i j) ((fc env).bind fun
          | .int k => .ok (.bl (q j k))
          | _ => .no) (.ok (.bl false))
        | _ => .no
      | _ => .no) Q := z
    cases hf : fa env with
    | er n e => rw [hf] at z0; exact z0
    | no => rw [hf] at z0; exact z0.elim
    | ok d =>
      rw [hf] at z0
      intro v I1 H1 g1 k1
      refine ⟨env, I1, rl.grow g1, ?_⟩
      cases d <;> try (exact z0.elim)
      rename_i i
      rw [k1.int_inv]
      have z1 : PostE X.K W σ I H ((fb env).bind fun
        | .int j => cond (p i j) ((fc env).bind fun
          | .int k => .ok (.bl (q j k))
          | _ => .no) (.ok (.bl false))
        | _ => .no) Q := z0
      cases hs : fb env with
      | er n e => rw [hs] at z1; exact fun cls od I2 H2 g2 k2 => z1 cls od I2 H2 (g1.trans g2) k2
      | no => rw [hs] at z1; exact z1.elim
      | ok d =>
        rw [hs] at z1
        intro u I2 H2 g2 k2
        cases d <;> try (exact z1.elim)
        rename_i j
        rw [k2.int_inv]
        have z2 : PostE X.K W σ I H (cond (p i j) ((fc env).bind fun
          | .int k => .ok (.bl (q j k))
          | _ => .no) (.ok (.bl false))) Q := z1
        refine ⟨i, j, rfl, rfl, p i j, rfl, ?_⟩
        cases hp : p i j with
        | false =>
          rw [hp] at z2
          rw [if_neg (by decide)]
          exact z2 _ I2 H2 (g1.trans g2) .bl
        | true =>
          rw [hp] at z2
          rw [if_pos rfl]
          refine ⟨env, I2, (rl.grow g1).grow g2, ?_⟩
          have z3 : PostE X.K W σ I H ((fc env).bind fun
            | .int k => .ok (.bl (q j k))
            | _ => .no) Q := z2
          cases ht : fc env with
          | er n e => rw [ht] at z3; exact fun cls od I3 H3 g3 k3 => z3 cls od I3 H3 ((g1.trans g2).trans g3) k3
          | no => rw [ht] at z3; exact z3.elim
          | ok d =>
            rw [ht] at z3
            intro t I3 H3 g3 k3
            cases d <;> try (exact z3.elim)
            rename_i k
            rw [k3.int_inv]
            exact ⟨j, k, rfl, rfl, z3 _ I3 H3 ((g1.trans g2).trans g3) .bl⟩⟩
end
end BW
/-! BCore41: an own error whose __init__ keeps one field, raised. -/
namespace BW
open PySem PySem.Spec PyProof.Rows L2
open Evl (Ex Ex.refl Ex.trans Ex.new ex_rd ex_l ex_t)
/-- what is asked of the class: x its name, f its field -/
def tOx (x f : Str) (K : PySem.W.Frag) : Bool :=
  (match K.lookup (He.ga K x) with
    | some ⟨.type "type", _, .cls cd, sl⟩ => (match cd.mro, sl.toList with
      | .ref C' :: bm, [_, _, _, _, some (.builtin n), _] => C' == He.ga K x && (n == "ValueError.__new__" && (!cd.hasDel && (cd.hasDict && PySem.HandSPX.refsVE bm)))
      | _, _ => false)
    | _ => false) &&
  (He.eqO (PySem.W.findIn K (.ref (He.ga K x)) "__setattr__") (some (some (.builtin "object.__setattr__"))) &&
  (decide (PySem.W.subIn K (.ref (He.ga K x)) (.type "BaseException") = some true) && (decide (PySem.W.typeIn K (.ref (He.ga K x)) = some (.type "type")) && (PySem.W.keepIn K (.ref (He.ga K x)) &&
  (He.eqO (PySem.W.findIn K (.ref (He.ga K x)) f) (some none) && (He.eqO (PySem.W.findIn K (.ref (He.ga K x)) "__init__") (some (some (.ref (He.ma K (He.ga K x) "__init__")))) &&
  decide (PySem.W.typeIn K (.ref (He.ma K (He.ga K x) "__init__")) = some (.type "function"))))))))
theorem tOx_ok {x f : Str} {K : PySem.W.Frag} (h : tOx x f K = true) : OexC K (He.ga K x) ∧ PySem.W.findIn K (.ref (He.ga K x)) f = some none ∧ PySem.W.findIn K (.ref (He.ga K x)) "__init__" = some (some (.ref (He.ma K (He.ga K x) "__init__"))) ∧ PySem.W.typeIn K (.ref (He.ma K (He.ga K x) "__init__")) = some (.type "function") := by
  unfold tOx at h
  obtain ⟨h0, h⟩ := Bool.and_eq_true_iff.mp h
  obtain ⟨h1, h⟩ := Bool.and_eq_true_iff.mp h
  obtain ⟨h2, h⟩ := Bool.and_eq_true_iff.mp h
  obtain ⟨h3, h⟩ := Bool.and_eq_true_iff.mp h
  obtain ⟨h4, h⟩ := Bool.and_eq_true_iff.mp h
  obtain ⟨h5, h⟩ := Bool.and_eq_true_iff.mp h
  obtain ⟨h6, h7⟩ := Bool.and_eq_true_iff.mp h
  refine ⟨⟨?_, He.eqO_ok h1, of_decide_eq_true h2, of_decide_eq_true h3, h4⟩, He.eqO_ok h5, He.eqO_ok h6, of_decide_eq_true h7⟩
  split at h0
  · rename_i dd cd sl ho
    split at h0
    · rename_i C' bm k0 k1 k2 k3 n k5 hm hs
      simp only [Bool.and_eq_true, beq_iff_eq, Bool.not_eq_true'] at h0
      obtain ⟨hc, hn, hdel, hdi, hr⟩ := h0
      obtain ⟨nm, bs, mro, ns, qn, hd, sn, sub, ab, col, del⟩ := cd
      dsimp only at hm hdel hdi
      subst hc hn hm hdel hdi
      have hsl : sl = #[k0, k1, k2, k3, some (.builtin "ValueError.__new__"), k5] := by
        obtain ⟨l⟩ := sl
        simp only at hs
        rw [hs]
      subst hsl
      exact ⟨nm, qn, ns, bs, bm, sn, sub, ab, col, dd, k0, k1, k2, k3, k5, ho, hr⟩
    · cases h0
  · cases h0
/-- what its __init__ does: a the new error, v what it keeps -/
def spX (K : PySem.W.Frag) (c : Nat) : Sp := fun vs H Q E => ∃ (a : Addr) (v : V), vs = [.ref a, v] ∧ H a = some (exo a (CL K c) none) ∧ ∀ dx, H dx = none → dx ≠ a → Q .non (upd (upd H dx (exd dx [(xf c, v)])) a (exo a (CL K c) (some dx)))
structure NfC (P : Program) (w : World) (K : PySem.W.Frag) (mg : Str → Option Value) (base : Heap) (c : Nat) : Prop where
  ex : ∃ (fI : Addr) (fd : FuncData) (ps : List Str), OexC K (CL K c) ∧ PySem.W.findIn K (.ref (CL K c)) "__init__" = some (some (.ref fI)) ∧ PySem.W.typeIn K (.ref fI) = some (.type "function") ∧ mg (cn c) = some (.ref (CL K c)) ∧ FnOk P w K mg base (L2.CX P w) 1 fI fd ps (spX K c) ∧ Binds K fd ps []
section
variable {P : Program} {w : World} {K : PySem.W.Frag} {mg : Str → Option Value} {base : Heap}
theorem exc_init {c : Nat} {qual p : Str} {st s1 : Stmt} {f : Addr} {fd : FuncData} (F0 : Fn K "__init__" qual st f fd) (S : FnScope ["self", p] ["self", p] (defScope st)) (hb : defBody st = [s1]) (O : OexC K (CL K c)) (hno : PySem.W.findIn K (.ref (CL K c)) (xf c) = some none)
    (body : ∀ (cdv : Value) (A : Around) (outer : List PySem.Env) (s : Shared) (H : Hp) (E : XK), PS (Cb P w K mg base ["self", p] qual st f cdv A outer s H E) s1 (tOst K (xf c) (tVar 0) (tVar 1))) :
    FnOk P w K mg base (L2.CX P w) 1 f fd ["self", p] (spX K c) := by
  refine F0.ok S (fun vs H Q E ⟨a, v, e, _⟩ => by rw [e]; rfl) fun cdv A outer s H vs Q E hr h => ?_
  obtain ⟨a, v, rfl, ha, q⟩ := h
  refine ⟨_, hb ▸ pss_one (body cdv A outer s H E), ?_⟩
  refine ⟨v, rfl, .ref a, rfl, a, CL K c, rfl, O, hno, .inl ⟨ha, fun dx h1 h2 => ?_⟩⟩
  exact q dx h1 h2
end
def gRaise1 (c : Nat) (f : F) : G := fun env => .of env (f env) fun d => if d.sc.isSome then .er env c [d] else .no
section
variable {X : Cx} {W : WX} {A H0 : Hp} {fr : Bool} {e : Expr} {f : F} {pos : Pos}
theorem vs_raise1 {c j : Nat} {x : Str} {p pos' : Pos} (hc : X.calm = true) (tk : Takes X W) (N : NfC X.prog X.w X.K X.mg X.base c) (hr : Room j X.A) (ha : VE X W A H0 e f) (hx : x = cn c) (hj : 2 ≤ j := by decide) (hg : Gl X x := by rfl) (hdb : (x == ("__debug__" : Str)) = false := by decide)
    (he : starEach (e :: []) X.env = (false, eval e X.env) :: starEach [] X.env := by rfl) (hpl : (backTo pos (starEach [] X.env)).any (·.1) = false := by rfl) :
    VS X W A H0 fr (.Raise (some (.Call (.Name x p) [e] [] pos)) none pos') (gRaise1 c f) := by
  obtain ⟨fI, fd, ps, O, i1, i2, i3, i4, i5⟩ := N.ex
  subst hx
  refine ps_imp (ps_raise hc tk (pmk_oex O i1 i2 i4 (hr.mono hj) i5 (.nil) (passes_call tk fun _ _ _ _ h => h.elim) hg i3 (pa_cons ha pa_nil he) hdb he hpl)) fun Z σ H ⟨env, I, rl, q⟩ => ⟨env, I, rl, of_run rl q fun d v I1 H1 _ r1 g1 k1 q1 => ?_⟩
  have q2 : PostS X.K W A H0 fr I1 Z (if d.sc.isSome then .er env c [d] else .no) := q1
  by_cases hs : d.sc.isSome = true
  · rw [if_pos hs] at q2
    obtain ⟨s, hs'⟩ := Option.isSome_iff_exists.mp hs
    have hv : v = s := k1.sc hs'
    refine ⟨by show 1 ≤ 1000; decide, fun a ha1 => ⟨a, v, rfl, upd_same, fun dx h1 h2 => ⟨rfl, dx, [(xf c, v)], upd_same, by rw [upd_ne h2, upd_same], ?_, ?_⟩⟩⟩
    · rw [upd_ne h2] at h1; exact h1
    · have hdx : H1 dx = none := by rw [upd_ne h2] at h1; exact h1
      have hex : Ex H1 (upd (del (upd (upd (upd H1 a (exo a (CL X.K c) none)) dx (exd dx [(xf c, v)])) a (exo a (CL X.K c) (some dx))) a) dx (.xd [(xf c, v)])) := fun b o z => by
        have nb : b ≠ a := fun e => by rw [e, ha1] at z; cases z
        have nd : b ≠ dx := fun e => by rw [e, hdx] at z; cases z
        rw [upd_ne nd, del_ne nb, upd_ne nb, upd_ne nd, upd_ne nb]
        exact z
      have gg : Grow I1 H1 (upd I1 dx (.xd [(xf c, v)])) (upd (del (upd (upd (upd H1 a (exo a (CL X.K c) none)) dx (exd dx [(xf c, v)])) a (exo a (CL X.K c) (some dx))) a) dx (.xd [(xf c, v)])) := by
        refine ⟨Ex.new (Evl.fresh_back r1.g.ih hdx), hex, fun b o z => ?_, fun b o z => ?_⟩
        · by_cases y : b = dx
          · subst y
            rw [upd_same] at z ⊢
            exact z
          · rw [upd_ne y] at z
            exact hex b o (r1.g.ih b o z)
        · by_cases y : b = dx
          · subst y
            exact .inr hdx
          · rw [upd_ne y] at z
            exact .inl z
      exact q2 σ _ _ _ _ (r1.grow gg) gg.i ⟨rfl, dx, s, rfl, hs', by rw [upd_same, hv]⟩
  · rw [if_neg hs] at q2; exact q2.elim
end
end BW
/-! BCore42: an instance of an own class `is` a bool. -/
namespace BW
open PySem PySem.Spec PyProof.Rows L2
open Evl (Ex Ex.refl Ex.trans Ex.new ex_rd ex_l ex_t)
def rIsRB : R2 := fun x y H Q => ∃ (a : Addr) (b : Bool), x = .ref a ∧ y = .bl b ∧ Q (.bl false) H
theorem op_isRB {X : Cx} : OpR X (compareOp .Is) rIsRB := by
  intro pins s σ H x y v u Q I rx ry h
  obtain ⟨a, b, rfl, rfl, q⟩ := h
  cases rx
  cases (show u = Value.bool b from ry)
  exact wpAny_is_other rfl (fun z => nomatch z) ⟨.bl false, H, I, rfl, q⟩
def isUD : D → D → R D
  | .obj _ _, .bl _ => .ok (.bl false)
  | .bl a, .bl b => .ok (.bl (decide (a = b)))
  | _, _ => .no
theorem isUD_ner : NoEr isUD := fun x y c p => by
  cases y with
  | bl b => cases x <;> exact fun z => nomatch z
  | _ => cases x <;> exact fun z => nomatch z
theorem isUD_inv {dx dy d : D} (e : isUD dx dy = .ok d) : (∃ c l b, dx = .obj c l ∧ dy = .bl b ∧ d = .bl false) ∨ ∃ a b, dx = .bl a ∧ dy = .bl b ∧ d = .bl (decide (a = b)) := by
  cases dy with
  | bl b =>
    cases dx with
    | bl a => exact .inr ⟨a, b, rfl, rfl, (ok_inj (show R.ok (D.bl (decide (a = b))) = R.ok d from e)).symm⟩
    | obj c l => exact .inl ⟨c, l, b, rfl, rfl, (ok_inj (show R.ok (D.bl false) = R.ok d from e)).symm⟩
    | _ => cases e
  | _ => cases dx <;> cases e
theorem so_isU {K : PySem.W.Frag} : SOp K (fun x y H Q => rIsRB x y H Q ∨ rIsB x y H Q) isUD := by
  intro x y dx dy d H Q hx hy e
  rcases isUD_inv e with ⟨c, l, b, rfl, rfl, rfl⟩ | ⟨a, b, rfl, rfl, rfl⟩
  · obtain ⟨p, dx, vs, rfl, _⟩ := hx.obj_inv
    exact ⟨_, rfl, fun q => .inl ⟨p, b, rfl, hy.bl_inv, q⟩⟩
  · exact ⟨_, rfl, fun q => .inr ⟨a, b, hx.bl_inv, hy.bl_inv, q⟩⟩
section
variable {X : Cx} {W : WX} {A H0 : Hp} {a b c e : Expr} {fa fb fc f : F} {pos : Pos}
theorem ve_isU (ha : VB X W A H0 a fa) (hb : VB X W A H0 b fb) : VE X W A H0 (.Compare a [.Is] [b] pos) (f2 isUD fa fb) := ve_cmp (OpR.or op_isRB op_isBl) so_isU isUD_ner ha hb (nomark _)
end
end BW
/-! BCore43: a name that gets a new list, or None. -/
namespace BW
open PySem PySem.Spec PyProof.Rows L2
open Evl (Ex Ex.refl Ex.trans Ex.new ex_rd ex_l ex_t)
def gSetE (i : Nat) (f : F) : G := fun env => .of env (f env) fun
  | .lst l => .nx (env.set i (.mu l))
  | .non => .nx (env.set i (.im .non))
  | _ => .no
section
variable {X : Cx} {W : WX} {A H0 : Hp} {e : Expr} {f : F} {pos : Pos} {fr : Bool}
theorem setE_run {i : Nat} {Z : Ends} {σ : L2.St} {H : Hp} (h : rdS X.K W A H0 fr (gSetE i f) Z σ H) : rdP X.K W A H0 f σ H (fun x H1 => gName i x σ H1 Z.nx) := by
  obtain ⟨env, I, r, q⟩ := h
  refine ⟨env, I, r, ?_⟩
  unfold gSetE at q
  cases hf : f env with
  | ok d =>
    rw [hf] at q
    cases d <;> try (exact q.elim)
    · exact fun I' H' g => (PostS.mono g.i q) _ I' H' ((r.grow g).set_im .non) (Ex.refl _)
    · exact fun p vs I' H' g h0 hi h1 h2 => (PostS.mono g.i q) _ I' H' ((r.grow g).set_mu hi (Evl.fresh_back r.g.h h0) h1 h2 (fun j m hj z => by
        obtain ⟨a, us, k1, k2, _⟩ := r.mu j m hj
        rw [z] at k1
        cases k1
        rw [h0] at k2
        cases k2) (r.owf g h0)) (Ex.refl _)
  | er c p => rw [hf] at q; exact fun cls od I' H' g kk => q σ I' H' cls od (r.grow g) g.i kk
  | no => rw [hf] at q; exact q.elim
theorem vs_setE (i : Nat) {x : Str} {pos' : Pos} (hN : X.N.Nodup) (he : VP X W A H0 e f) (hi : X.N[i]? = some x := by rfl) (hx : Loc X.env.scope x := by first | exact .inl rfl | exact .inr rfl) (hs : swapsWith e (some (.Name x pos')) pos.line X.env = pure false := by rfl) (hf : X.fn x = true ∨ X.env.scope.names.lookup x = some .local := by first | exact .inl rfl | exact .inr rfl | assumption) :
    VS X W A H0 fr (.Assign [.Name x pos'] e pos) (gSetE i f) := ps_imp (ps_set hN hi hx he hs hf) fun Z σ H h => setE_run h
end
end BW
/-! BCore44: what a dict holds at a number, or another value. -/
namespace BW
open PySem PySem.Spec PyProof.Rows L2
open Evl (Ex Ex.refl Ex.trans Ex.new ex_rd ex_l ex_t)
def dorD (x y z : D) : R D := match x, y with
  | .dct ks l, .int n => .ok ((lookD ks l n).getD z)
  | _, _ => .no
def fDor (fa fk fd : F) : F := fun env => (fDc fa env).bind fun x => (fk env).bind fun y => (fd env).bind fun z => dorD x y z
section
variable {X : Cx} {W : WX} {A H0 : Hp} {o ie e : Expr} {fa fk fd : F} {apos cpos : Pos}
theorem ve_dor (hu : X.A.units + 64 < cLine) (hb : VD X W A H0 o fa) (ha : VB X W A H0 ie fk) (hd : VE X W A H0 e fd) (m : M2 X o "get" apos ie e cpos) : VE X W A H0 (.Call (.Attribute o "get" apos) [ie, e] [] cpos) (fDor fa fk fd) := pe_imp (pe_dget2 (by omega) hb ha hd m) fun σ H Q ⟨env, I, rl, q⟩ => ⟨env, I, rl, by
  have q0 : PostE X.K W σ I H (((fa env).bind dcD).bind fun x => (fk env).bind fun y => (fd env).bind fun z => dorD x y z) Q := q
  cases hf : fa env with
  | er c p => rw [hf] at q0; exact q0
  | no => rw [hf] at q0; exact q0.elim
  | ok d =>
    rw [hf] at q0
    cases d with
    | dct ks l =>
      have q1 : PostE X.K W σ I H ((fk env).bind fun y => (fd env).bind fun z => dorD (.dct ks l) y z) Q := q0
      intro p kvs I1 H1 gg1 h1 h2 h3
      refine ⟨p, rfl, .inl ⟨kvs, h1⟩, env, I1, rl.grow gg1, ?_⟩
      cases hk : fk env with
      | er c p => rw [hk] at q1; exact fun cls od I2 H2 gg2 k2 => q1 cls od I2 H2 (gg1.trans gg2) k2
      | no => rw [hk] at q1; exact q1.elim
      | ok y =>
        rw [hk] at q1
        have q2 : PostE X.K W σ I H ((fd env).bind fun z => dorD (.dct ks l) y z) Q := q1
        intro v I2 H2 gg2 k2
        refine ⟨env, I2, (rl.grow gg1).grow gg2, ?_⟩
        cases hz : fd env with
        | er c p => rw [hz] at q2; exact fun cls od I3 H3 gg3 k3 => q2 cls od I3 H3 ((gg1.trans gg2).trans gg3) k3
        | no => rw [hz] at q2; exact q2.elim
        | ok z =>
          rw [hz] at q2
          intro vz I3 H3 gg3 k3
          cases y with
          | int n =>
            have q3 : PostE X.K W σ I H (.ok ((lookD ks l n).getD z)) Q := q2
            have h1' : L2.Rd H3 p (.dK kvs) := h1.elim (fun z => .inl ((gg2.trans gg3).h _ _ z)) fun ⟨ob, z⟩ => .inr ⟨ob, (gg2.trans gg3).h _ _ z⟩
            rw [k2.int_inv]
            cases hl : lookD ks l n with
            | some d =>
              rw [hl] at q3
              obtain ⟨w, h4, h5⟩ := look_some h2 h3 hl
              refine ⟨some w, .inl ⟨kvs, .inl n, h1', rfl, h4.symm⟩, ?_⟩
              exact q3 w I3 H3 ((gg1.trans gg2).trans gg3) (h5.mono (gg2.i.trans gg3.i))
            | none =>
              rw [hl] at q3
              refine ⟨none, .inl ⟨kvs, .inl n, h1', rfl, (look_none h2 h3 hl).symm⟩, ?_⟩
              exact q3 vz I3 H3 ((gg1.trans gg2).trans gg3) k3
          | _ => exact q2.elim
    | _ => exact q0.elim⟩
end
end BW
/-! BCore45: the field of a kept error, read. -/
namespace BW
open PySem PySem.Spec PyProof.Rows L2
open Evl (Ex Ex.refl Ex.trans Ex.new ex_rd ex_l ex_t)
def tXfK (C : Addr) (f : Str) (te : TE) : TE := fun σ H Q => te σ H fun x H1 => ∃ (a dd : Addr) (fs : List (Str × V)) (v : V), x = .ref a ∧ H1 a = some (excO C (some dd) a) ∧ H1 dd = some (.xd fs) ∧ fs.lookup f = some v ∧ Q v H1
theorem pe_xfK {X : Cx} {C : Addr} {e : Expr} {te : TE} {pos : Pos} {n : Str} (T : XfC X.K C) (hno : PySem.W.findIn X.K (.ref C) n = some none)
    (he : PE X e te) (hb : attributeBase e n X.env (eval e X.env) = eval e X.env := by rfl) :
    PE X (.Attribute e n pos) (tXfK C n te) := by
  refine ⟨fun pins s σ H Q I h => ?_⟩
  refine attr_of hb (thn (he.run pins s σ H _ I h) fun u s1 hh => ?_)
  obtain ⟨x, H1, I1, rx, a, dd, fs, v, ex, e1, ea, l, q⟩ := hh
  subst ex
  obtain rfl : u = Value.ref a := rx
  have hx : ObjOk X.prog X.w H1 s1.heap dd (.xd fs) := I1.hok dd _ ea
  have hy : ObjOk X.prog X.w H1 s1.heap a (excO C (some dd) a) := I1.hok a _ e1
  obtain ⟨oe, ha, hz, hf⟩ : ∃ oe, s1.heap.get? a = some oe ∧ Zc (.ref C) (some dd) oe ∧ ∃ vs, oe.data = .fields vs := hy.1
  obtain ⟨vs, hd⟩ := hf
  obtain ⟨mA, hns, hr⟩ := hx
  obtain ⟨od, ho, hl⟩ := lookIn_ns hns
  obtain ⟨u, hu, ru⟩ := RelO.some_of (v := v) (o := mA n) (by rw [← l]; exact hr n)
  have J : PySem.W.InstAt s1.heap a oe C (some od) := ⟨ha, hz.1, by unfold PySem.W.notCls; rw [hd] <;> rfl, by rw [hz.2]; exact ho⟩
  exact HandSPX.exc_get I1.kIn J T.ga T.gg T.exC (PySem.W.findObj_own T.hdC hno rfl (by rw [hl, hu])) (handed_of ru) ⟨v, H1, I1.tok _, ru, q⟩
/-- what the error of class c keeps -/
def xfD (c : Nat) : D → R D
  | .exc k [d] => if k = c then .ok d else .no
  | _ => .no
section
variable {X : Cx} {W : WX} {A H0 : Hp} {e : Expr} {f : F} {pos : Pos}
theorem ve_xf (c : Nat) {n : Str} (hn : xf c = n) (T : XfC X.K (CL X.K c)) (hno : PySem.W.findIn X.K (.ref (CL X.K c)) n = some none) (h : VE X W A H0 e f) (hb : attributeBase e n X.env (eval e X.env) = eval e X.env := by rfl) : VE X W A H0 (.Attribute e n pos) (f1 (xfD c) f) := pe_imp (pe_xfK T hno h hb) fun σ H Q ⟨env, I, r, q⟩ => ⟨env, I, r, by
  have q0 : PostE X.K W σ I H ((f env).bind (xfD c)) Q := q
  cases hf : f env with
  | er k p => rw [hf] at q0; exact q0
  | no => rw [hf] at q0; exact q0.elim
  | ok d =>
    rw [hf] at q0
    intro v I' H' g k
    cases k with
    | @exc1 a c' dx w d' h1 h2 h3 =>
      have q1 : PostE X.K W σ I H (if c' = c then .ok d' else .no) Q := q0
      by_cases hc : c' = c
      · rw [if_pos hc] at q1
        subst hc
        exact ⟨a, dx, [(xf c', w)], w, rfl, g.ih _ _ h1, g.ih _ _ h2, by rw [← hn]; simp [List.lookup], q1 w I' H' g h3⟩
      · rw [if_neg hc] at q1; exact q1.elim
    | _ => exact q0.elim⟩
end
end BW
/-! BCore46: isinstance of a kept error that has a field. -/
namespace PySem.W
open PySem PySem.Spec PySem.Calls PyProof.Rows
section
variable {prog : Program} {w : World} {A : Around} {E : Value → Shared → Prop} {s : Shared} {K : Frag} {x D : Addr} {ox : Obj} {od : Option Obj}
theorem bw_findD {C : Addr} {name : Str} {a g : Value} (h1 : (clsIn K C).isSome = true) (h2 : findIn K (.ref C) name = some (some a)) (h3 : specialIn K a "__get__" = some (some g)) (h4 : takesIn K a = some true) : findObj K C od name = some (.bind g a) := by
  obtain ⟨cd, hcd⟩ := Option.isSome_iff_exists.mp h1
  unfold findObj
  rw [hcd, Option.bind_some, h2, Option.bind_some]
  simp [h3, h4]
/-- its class, asked for -/
theorem bw_classD {Q : Option Value → Shared → Prop} (C : L2.ExcC K D) (X : K.In s.heap) (I : InstAt s.heap x ox D od) (h : Q (some (.ref D)) { s with toks := s.toks + 1 }) :
    wpAny (model prog w) A (getAttr? (.ref x) "__class__") Q E s := by
  have hf : findObj K D od "__class__" = some (.bind (.builtin "getset_descriptor.__get__") (.builtin "object.__class__")) :=
    bw_findD (by obtain ⟨cd, hc, _⟩ := any_some C.hd
                 rw [hc]; rfl) C.ha C.hn C.ht
  obtain ⟨hp, g, d, t, os⟩ := s
  have K0 := I.type (M := model prog w)
  have K1 := looks_findIn (M := model prog w) X C.hg
  have K2 := looks_findIn (M := model prog w) X C.hk
  have K3 := looks_find (M := model prog w) X I hf
  have K4 : Looks (model prog w) hp (isInstance (.ref x) (.type "BaseException")) true := K0.andThen
    (looks_subIn X C.hs)
  have n0 : (false && onTheHeap (Value.builtin "BaseException.__getattribute__")) = false := rfl
  have n1 : (onTheHeap (Value.ref D) && Value.builtin "BaseException.__getattribute__" == Value.builtin "object.__getattribute__") = false := by
    have n2 : (Value.builtin "BaseException.__getattribute__" == Value.builtin "object.__getattribute__") = false := by
      decide +kernel
    rw [n2]; rfl
  unfold getAttr?
  unfold getAttrBy?
  unfold getAttrBy
  refine wpAny_bind (wpAny_mkText (wpAny_bind (wpAny_attempt ?_)))
  refine wpAny_holding (wpAny_bind (K0.at (wpAny_bind (K1.at ?_))))
  show wpAny _ _ (if (onTheHeap (Value.ref D) && Value.builtin "BaseException.__getattribute__" == Value.builtin "object.__getattribute__") = true then _ else _)
    _ _ _
  rw [n1, if_neg Bool.false_ne_true]
  unfold getAttrByItsOwn
  unfold hookBefore
  refine wpAny_bind ?_
  rw [if_pos (show onTheHeap (Value.ref D) = true from rfl)]
  refine K2.at (wpAny_bind (wpAny_attempt (wpAny_holding ?_)))
  unfold callGetattribute
  rw [n0, if_neg Bool.false_ne_true]
  unfold boundAndCalled
  rw [PySem.F.excAttr_ValueError.ga.bind (.ref x)]
  refine wpAny_bind (wpAny_pure ?_)
  show wpAny _ _ (call (.builtin "BaseException.__getattribute__")
    [.ref x, .str "__class__" t]) _ _ _
  refine wpAny_call (codeAny_call_builtin PySem.F.excAttr_ValueError.ga.plain
    PySem.F.entry_bexc_ga ?_)
  refine @check_slot (model prog w) _ _ ⟨hp, g, d, t + 1, os⟩ "BaseException.__getattribute__" "BaseException" "__getattribute__"
    (.ref x) [.str "__class__" t] [] _ (by decide +kernel) (by decide +kernel) K4
    (PySem.F.args_bexc_ga (.ref x) (.str "__class__" t)) ?_
  unfold Builtin.«object.__getattribute__»
  refine wpAny_bind (wpAny_of_eq (a := ((Value.ref x : Value), [Value.str "__class__" t]))
    (by first | rfl | (simp only [slotArgs]; rfl)) ?_)
  refine wpAny_bind (wpAny_pure (wpAny_bind (K0.at (wpAny_bind (K3.at ?_)))))
  show wpAny _ _ (holding [Value.builtin "object.__class__"]
    (call (.builtin "getset_descriptor.__get__") [.builtin "object.__class__", .ref x, .ref D]) >>= ret) _ _ _
  refine wpAny_bind (wpAny_holding (wpAny_call
    (class_get (s := ⟨hp, g, d, t + 1, os⟩) (ox := ox) (od := od) X I C.hm ?_)))
  refine wpAny_pure ?_
  show wpAny _ _ (handedOut (.ref D)) _ _ _
  rw [handedOut_of (v := .ref D) rfl]
  first
    | exact wpAny_pure (wpAny_pure h)
    | exact wpAny_pure h
    | exact wpAny_pure (wpAny_bind (wpAny_pure (wpAny_pure h)))
theorem bw_kitD (C : L2.ExcC K D) : KitX K (.ref x) (.ref D) (fun h => InstAt h x ox D od) where
  ty := fun _ _ _ I => I.type
  it := fun _ _ X _ => by
    obtain ⟨cd, hcd, _⟩ := any_some C.hd
    unfold clsIn at hcd
    split at hcd
    · next ho =>
      intro A' Q' E' s' k q
      unfold isType loadHead
      exact wpAny_bind (wpAny_loadPart (k _ _ (X _ _ ho)) (wpAny_pure q))
    · cases hcd
  ne := fun h tp dd its n sl X htp => by
    obtain ⟨cd, hcd, _⟩ := any_some C.hd
    refine Bool.eq_false_iff.mpr fun q => ?_
    cases (Value.ref.inj (beq_iff_eq.mp q) : D = tp)
    unfold clsIn at hcd
    split at hcd
    · next ho =>
      have z := (X _ _ ho).symm.trans htp
      cases z
    · cases hcd
  ca := fun X I k => bw_classD C X I k
end
end PySem.W
namespace BW
open PySem PySem.Spec PyProof.Rows L2
open Evl (Ex Ex.refl Ex.trans Ex.new ex_rd ex_l ex_t)
/-- isinstance(e, c), e an error with a field that the heap tells of -/
def rIsP (K : PySem.W.Frag) : List V → Hp → VK → Prop := fun xs H Q => ∃ (a C dd : Addr) (fs : List (Str × V)) (c : V) (u : Value) (b : Bool), xs = [.ref a, c] ∧ H a = some (excO C (some dd) a) ∧ H dd = some (.xd fs) ∧ ExcC K C ∧ ClsV c u ∧ PySem.W.kitOne K (.ref C) u = some b ∧ Q (.bl b) H
theorem call_isP {X : Cx} : CallR X (.builtin "isinstance") (rIsP X.K) := by
  intro pins s σ H xs us Q I r h
  obtain ⟨a, C, dd, fs, c, u, b, rfl, ha, hx0, ex, hc, hk, q⟩ := h
  match us, r with
  | [ua, uc], .cons ra (.cons rc .nil) =>
    have ea : ua = .ref a := ra
    have ec : uc = u := hc.eq rc
    subst ea ec
    have o : ObjOk X.prog X.w H s.heap a (excO C (some dd) a) := I.hok a _ ha
    obtain ⟨⟨oe, hget, hz, vs, hv⟩, _⟩ := o
    have hx : ObjOk X.prog X.w H s.heap dd (.xd fs) := I.hok dd _ hx0
    obtain ⟨mA, hns, _⟩ := hx
    obtain ⟨od, ho, _⟩ := lookIn_ns hns
    have inst : PySem.W.InstAt s.heap a oe C (some od) := ⟨hget, hz.1, by unfold PySem.W.notCls; rw [hv] <;> rfl, by rw [hz.2]; exact ho⟩
    exact PySem.W.kia_one (PySem.W.bw_kitD ex) I.kIn inst hk (by intro z; cases z) fun tk => ⟨.bl b, H, I.kept (t' := tk) fun _ _ z => z, rfl, q⟩
end BW
namespace BW
open PySem PySem.Spec PyProof.Rows L2
open Evl (Ex Ex.refl Ex.trans Ex.new ex_rd ex_l ex_t)
/-- isinstance by a table, of an object or of an error with or without a field -/
def isoXD (tb : List (Nat × Bool)) (d : D) : R D := match d with
  | .exc c [_] => if 1 < c then (match tb.lookup c with
    | some b => .ok (.bl b)
    | none => .no) else .no
  | d => isoD tb d
theorem isoXD_or (tb : List (Nat × Bool)) (d : D) : (∃ c x, d = .exc c [x]) ∨ isoXD tb d = isoD tb d := by
  cases d with
  | exc c l =>
    cases l with
    | nil => exact .inr rfl
    | cons x l =>
      cases l with
      | nil => exact .inl ⟨c, x, rfl⟩
      | cons _ _ => exact .inr rfl
  | _ => exact .inr rfl
section
variable {X : Cx} {W : WX} {A H0 : Hp} {a : Expr} {fa : F} {pos : Pos}
theorem isoX_run {K : PySem.W.Frag} {σ : L2.St} {I H : Hp} {u : Value} {tb : List (Nat × Bool)} (T : IsoT K u tb) {cv : V} (hcv : ClsV cv u) {r : R D} {Q : VK} (q0 : PostE K W σ I H (r.bind (isoXD tb)) Q) :
    PostE K W σ I H r fun v H1 => (rIsi K [v, cv] H1 Q ∨ rIsX K [v, cv] H1 Q) ∨ rIsP K [v, cv] H1 Q := by
  cases r with
  | er c p => exact q0
  | no => exact q0.elim
  | ok d =>
    rcases isoXD_or tb d with ⟨c, x, rfl⟩ | hd
    · intro v I1 H1 g1 k
      have q2 : PostE K W σ I H (if 1 < c then (match tb.lookup c with | some b => R.ok (.bl b) | none => .no) else .no) Q := q0
      by_cases hc : 1 < c
      · rw [if_pos hc] at q2
        cases ht : tb.lookup c with
        | none => rw [ht] at q2; exact q2.elim
        | some b =>
          rw [ht] at q2
          obtain ⟨hk, _, h2⟩ := T c b ht
          cases k with
          | @exc1 p c' dx w d' h1 h3 h4 => exact .inr ⟨p, CL K c, dx, [(xf c, w)], cv, u, b, rfl, g1.ih _ _ h1, g1.ih _ _ h3, h2 hc, hcv, hk, q2 _ I1 H1 g1 .bl⟩
      · rw [if_neg hc] at q2; exact q2.elim
    · have q1 : PostE K W σ I H ((R.ok d).bind (isoD tb)) Q := by
        show PostE K W σ I H (isoD tb d) Q
        rw [← hd]; exact q0
      have := iso_run T hcv q1
      exact fun v I1 H1 g1 k => .inl (this v I1 H1 g1 k)
theorem ve_isoX (y : Str) {Cy : Addr} {tb : List (Nat × Bool)} {p q : Pos} (T : IsoT X.K (.ref Cy) tb) (hm : X.mg "isinstance" = none) (hy : X.mg y = some (.ref Cy)) (ha : VE X W A H0 a fa) (hg : Gl X "isinstance" := by rfl) (hg2 : Gl X y := by rfl) (hdT : (y == ("__debug__" : Str)) = false := by decide)
    (hs : starEach (a :: [.Name y q]) X.env = (false, eval a X.env) :: starEach [.Name y q] X.env := by rfl) (hs2 : starEach (.Name y q :: []) X.env = (false, eval (.Name y q) X.env) :: starEach [] X.env := by rfl) (hpl : (backTo pos (starEach [.Name y q] X.env)).any (·.1) = false := by rfl) :
    VE X W A H0 (.Call (.Name "isinstance" p) [a, .Name y q] [] pos) (f1 (isoXD tb) fa) :=
  pe_imp (pe_callB (CallR.or (CallR.or call_isi call_isX) call_isP) hg hm (by decide +kernel) (pa_cons ha (pa_cons (pe_glob (v := .ref Cy) hg2 hy rfl hdT) pa_nil hs2) hs) (by decide) (by decide) hs hpl) fun σ H Q ⟨env, I, rl, q⟩ => ⟨env, I, rl, isoX_run T (.own Cy) q⟩
end
end BW
/-! BCore47: enumerate of a list or a tuple, walked. -/
namespace BW
open PySem PySem.Spec PyProof.Rows L2
open Evl (Ex Ex.refl Ex.trans Ex.new ex_rd ex_l ex_t)
def enuO (p : Addr) : Obj where
  cls := .type "enumerate"
  data := .fields #[.none, .bool false, .ref p, rawInt 0, .none, .none]
theorem enu_new {v : Value} {o : Obj} {Hs : Heap → Prop} (B : Begins v o Hs) : Meets (Builtin.«enumerate.__new__» ⟨[.type "enumerate", v], []⟩)
    (fun _ R s => Hs s.heap ∧ R (.ok (.ret (.ref (s.heap.push o).objs.size))) { s with heap := (s.heap.push o).push (enuO s.heap.objs.size) }) := .of_wp fun prog w A R s hh => by
  obtain ⟨hp, gl, d, tk, os⟩ := s
  obtain ⟨h1, hh⟩ := hh
  have hsub := sub_enumerate
  have begun : ∀ {A' : Around} {E : Value → Shared → Prop} {Q : Value → Shared → Prop}, Q (.ref hp.objs.size) ⟨hp.push o, gl, d, tk, os⟩ →
      wpAny (model prog w) A' (pyIter v) Q E ⟨hp, gl, d, tk, os⟩ := fun q => B.iter prog w _ _ ⟨hp, gl, d, tk, os⟩ _ h1 q
  wp_walk using begun
  refine wpAny_stack_any fun _ => wpAny_pure ?_
  split
  · next cc _ _ _ _ _ =>
    cases (cc == Value.type "enumerate") <;> (wp_walk using begun; exact ⟨_, rfl, hh⟩)
  · wp_walk using begun
    exact ⟨_, rfl, hh⟩
theorem enu_begins {prog : Program} {w : World} {A : Around} {E : Value → Shared → Prop} {s : Shared} {v : Value} {o : Obj} {Hs : Heap → Prop} {Q : Value → Shared → Prop} (B : Begins v o Hs) (h1 : Hs s.heap)
    (k : ∀ h', IsEnum h' (s.heap.objs.size + 1) s.heap.objs.size 0 .none → h'.get? s.heap.objs.size = some o → (∀ b ob, s.heap.get? b = some ob → h'.get? b = some ob) → Q (.ref (s.heap.objs.size + 1)) { s with heap := h' }) :
    wpAny (model prog w) A (call (.type "enumerate") [v]) Q E s := by
  refine callType_new F.called_enumerate (by decide) (F.typeCall_enumerate_1 _) (F.newCall_enumerate_1 _)
    (fun ob => F.args_object_init_2 ob _) F.entry_enumerate_new (enu_new B) ⟨h1, ?_⟩
  have size1 : (s.heap.push o).objs.size = s.heap.objs.size + 1 := Heap.size_push ..
  show _ ∧ _
  rw [size1]
  have he : IsEnum ((s.heap.push o).push (enuO s.heap.objs.size)) (s.heap.objs.size + 1) s.heap.objs.size 0 .none := by
    have q := Heap.get?_push_size (s.heap.push o) (o := enuO s.heap.objs.size) rfl
    rw [size1] at q
    exact q
  exact ⟨⟨_, he, rfl⟩, k _ he (Heap.get?_push_of_some _ (Heap.get?_push_size _ B.free)) fun b ob x => Heap.get?_push_of_some _ (Heap.get?_push_of_some _ x)⟩
/-- a row as it stands at each turn, its items numbered in new pairs -/
def ItE (K : PySem.W.Frag) (k : Kd) (a : Addr) : It where
  go := fun i H => ∃ (xs : List V) (x : V), SqK K k H a xs ∧ xs[i]? = some x
  yld := fun i H v H' => ∃ T x, v = .ref T ∧ H T = none ∧ (∃ ob : Obj, ob.dict = none ∧ H' = upd H T (.frz ob (.tup [.int (i : Nat), x]))) ∧ ∀ xs, SqK K k H a xs → xs[i]? = some x
  stop := fun i H => ∃ xs : List V, SqK K k H a xs ∧ i = xs.length
theorem turnE {P : Program} {w : World} {K : PySem.W.Frag} {elts : List Expr} {kk : Nat} {tpos : Pos} {k : Kd} {a e it : Addr} (n1 : a ≠ it) (n2 : e ≠ it) (n3 : e ≠ a) :
    Turn P w K (.Tuple elts kk tpos) (ItE K k a) [e, it] e (fun i h => (∃ old, IsEnum h e it ((i : Nat) : Int) old) ∧ ItK k h it a i) where
  mem := List.mem_cons_self ..
  obj := by
    intro i h st c hc
    obtain ⟨⟨old, s1⟩, s2⟩ := st
    obtain ⟨o1, e1, d1⟩ := itK_ob s2
    simp only [List.mem_cons, List.not_mem_nil, or_false] at hc
    rcases hc with rfl | rfl
    · exact ⟨_, s1, fun v q => nomatch q⟩
    · exact ⟨o1, e1, d1⟩
  keep := by
    rintro i h h' ⟨⟨old, s1⟩, s2⟩ kp
    exact ⟨⟨old, kp _ (by simp) _ s1⟩, itK_at s2 (kp _ (by simp))⟩
  item := by
    intro X hP hw hK hc i pins s σ H E I hf st hg
    subst hP hw hK
    obtain ⟨⟨old, s1⟩, s2⟩ := st
    obtain ⟨xs, x, q1, g1⟩ := hg
    obtain ⟨us, r1, m1⟩ := sqK_told I q1
    obtain ⟨u, hu, ru⟩ := r1.get g1
    have lu : i < us.length := (List.getElem?_eq_some_iff.mp hu).1
    have el : e < s.heap.objs.size := Heap.lt_size s1
    have hh : X.A.in1.handled = none := I.ok.hd hc
    refine wpAny_pyNext_enum_itemD (drawsK hh k it a n1 us.toArray) s1 ⟨s2, m1⟩ (by simpa using lu) n2 (by simp [n2, n3]) fun x1 h' tk p1 z1 t1 z3 hsz hk => ?_
    have e1 : x1 = u := by
      have : us[i]? = some x1 := by simpa using p1
      exact Option.some.inj (this.symm.trans hu)
    subst e1
    refine ⟨_, rfl, wpAny_letOwnedTupleGo_enum (s := { s with heap := h', toks := tk + 1 }) z1 fun h2 z4 sb => ?_⟩
    have ne : s.heap.objs.size ≠ e := Nat.ne_of_gt el
    have hp : h2.get? s.heap.objs.size = some { cls := .type "tuple", data := .seq #[.int i tk, x1] } := (sb.2 _ ne).trans z3
    have ob : ObjOk X.prog X.w (upd H s.heap.objs.size (.frz (tObj [.int i tk, x1]) (.tup [.int (i : Nat), x]))) h2 s.heap.objs.size (.frz (tObj [.int i tk, x1]) (.tup [.int (i : Nat), x])) := by
      refine ⟨hp, ?_, [.int i tk, x1], .cons ⟨_, rfl⟩ (.cons ru .nil), ⟨_, hp, rfl, _, rfl⟩⟩
      show 2 ≤ sizeLine
      decide
    have I2 : Inv X pins σ (upd H s.heap.objs.size (.frz (tObj [.int i tk, x1]) (.tup [.int (i : Nat), x]))) { s with heap := h2, toks := tk + 1 } := by
      refine I.turnedNew (ch := [e, it]) (fun c o hb q => ?_) hf (Nat.le_refl _) ob
      simp only [List.mem_cons, List.not_mem_nil, or_false, not_or] at hb
      exact (sb.2 c hb.1).trans (hk c o hb.1 hb.2 q)
    refine ⟨.ref s.heap.objs.size, _, I2, rfl, ⟨_, x, rfl, I.hok.fresh (Nat.le_refl _), ⟨tObj [.int i tk, x1], rfl, rfl⟩, fun l hl => by rw [sqK_inj I hl q1]; exact g1⟩, ⟨⟨x1, ?_⟩, ?_⟩, fun c hcm => ?_⟩
    · have : ((i + 1 : Nat) : Int) = (i : Int) + 1 := by omega
      rw [this]
      exact z4
    · exact itK_at t1.1 fun o q => (sb.2 _ (Ne.symm n2)).trans q
    · have hlt : c < s.heap.objs.size := by
        obtain ⟨o1, e1, _⟩ := itK_ob s2
        simp only [List.mem_cons, List.not_mem_nil, or_false] at hcm
        rcases hcm with rfl | rfl
        · exact el
        · exact Heap.lt_size e1
      rw [upd_ne (Nat.ne_of_lt hlt)]
      exact (hf c hcm).1
  done := by
    intro X hP hw hK hc i pins s σ H E I hf st hg
    subst hP hw hK
    obtain ⟨⟨old, s1⟩, s2⟩ := st
    obtain ⟨xs, q1, g1⟩ := hg
    obtain ⟨us, r1, m1⟩ := sqK_told I q1
    have l1 := r1.length
    have hh : X.A.in1.handled = none := I.ok.hd hc
    have hn : i = us.toArray.size := by simp; omega
    subst hn
    refine wpAny_pyNext_enum_endD (drawsK hh k it a n1 us.toArray) s1 ⟨s2, m1⟩ fun h' eb => ⟨rfl, ?_⟩
    refine I.turnedL (t' := s.toks) (ch := [e, it]) (fun c o hb q => ?_) hf
    simp only [List.mem_cons, List.not_mem_nil, or_false, not_or] at hb
    exact eb c o hb.2 q
  self := fun A i s Q E st h => let ⟨⟨_, he⟩, _⟩ := st; wpAny_pyIter_enum he h
/-- enumerate(x) walked -/
def iEnumB (K : PySem.W.Frag) (ta : TA) : TI := fun σ H R => ta σ H fun vs H1 => ∃ a, vs = [.ref a] ∧ ∃ k xs, SqK K k H1 a xs ∧ R (ItE K k a) H1
theorem pi_enumB {X : Cx} {e : Expr} {ta : TA} {p pos tpos : Pos} {elts : List Expr} {kk : Nat} (hg : Gl X "enumerate") (hm : X.mg "enumerate" = none) (ha : PA X [e] ta) (hs : starEach [e] X.env = [(false, eval e X.env)] := by rfl) :
    PI X (.Tuple elts kk tpos) (.Call (.Name "enumerate" p) [e] [] pos) (iEnumB X.K ta) := ⟨fun pins s σ H R I h => by
  refine Call_ (ld_blt I hg hm PyProof.Rows.boot_enumerate (PyProof.Rows.callWith_type1 (thn (ha.run pos pins s σ H _ I h) ?_) hs rfl))
  rintro us s1 ⟨vs, H1, I1, r1, a, rfl, k, xs, q1, q⟩
  cases r1 with
  | cons r r1 =>
    cases r1; cases r
    obtain ⟨ua, ra, ma⟩ := sqK_told I1 q1
    have la := hsK_lt ma
    refine enu_begins (beginsK k a ua.toArray) ma fun h' z1 z2 hk => wpAny_pyIter_enum z1 ?_
    have I2 : Inv X pins σ H1 { s1 with heap := h' } := I1.kept (t' := s1.toks) hk
    refine ⟨s1.heap.objs.size + 1, [s1.heap.objs.size + 1, s1.heap.objs.size], _, _, H1, rfl, I2, turnE (Nat.ne_of_lt la) (Nat.succ_ne_self _) (Nat.ne_of_gt (Nat.lt_succ_of_lt la)), ⟨⟨_, z1⟩, itK_new z2⟩, fun c hc => ?_, q⟩
    have hle : s1.heap.objs.size ≤ c := by
      simp only [List.mem_cons, List.not_mem_nil, or_false] at hc
      rcases hc with rfl | rfl
      · exact Nat.le_add_right _ _
      · exact Nat.le_refl _
    exact I1.fpOk hle (I1.hok.fresh hle)⟩
def enuL (ds : List D) : List D := (ds.zipIdx).map fun p => .tup [.int (p.2 : Nat), p.1]
theorem serves_enum {K : PySem.W.Frag} {I : Hp} {a : Addr} {vs : List V} {ds : List D} {k : Kd} (h1 : SqK K k I a vs) (h2 : RdA K I vs ds) : Serves K (ItE K k a) (enuL ds) I := by
  have l1 := h2.length
  have ln : (enuL ds).length = vs.length := by unfold enuL; rw [List.length_map, List.length_zipIdx, l1]
  unfold Serves
  rw [ln]
  refine ⟨fun i H' hi e => ⟨vs, vs[i], ex_k e h1, by simp [hi]⟩, fun H' e => ⟨vs, ex_k e h1, rfl⟩, fun i H' x H'' hi e y => ?_⟩
  obtain ⟨T, u, rfl, hT, ⟨ob, hd, rfl⟩, y1⟩ := y
  obtain ⟨d1, p1, p2⟩ := h2.getV (y1 _ (ex_k e h1))
  have iT : I T = none := Evl.fresh_back e hT
  refine ⟨.tup [.int (i : Nat), d1], ?_, .inr ⟨T, _, hT, rfl, .tup (.new hd) (.cons .int (.cons (p2.mono (Ex.new iT)) .nil))⟩⟩
  unfold enuL
  rw [List.getElem?_map, List.getElem?_zipIdx, p1]
  simp
/-- what enumerate tells -/
def enumD (x : D) : R D := (zipD.seqZ x).bind fun x => match x with
  | .lst l => .ok (.lst (enuL l))
  | _ => .no
section
variable {X : Cx} {W : WX} {A H0 : Hp} {a : Expr} {fa : F} {pos : Pos}
theorem vi_enum {elts : List Expr} {kk : Nat} {tpos p : Pos} (hm : X.mg "enumerate" = none) (ha : VE X W A H0 a fa) (hg : Gl X "enumerate" := by rfl)
    (hs : starEach [a] X.env = (false, eval a X.env) :: starEach [] X.env := by rfl) :
    VI X W A H0 (.Tuple elts kk tpos) (.Call (.Name "enumerate" p) [a] [] pos) (f1 enumD fa) := pi_imp (pi_enumB hg hm (va_st ha va_nil hs) (by rw [hs]; rfl)) fun σ H R ⟨env, I, rl, q⟩ => ⟨env, I, rl, by
  have q0 : PostI X.K W σ I H ((fa env).bind enumD) R := q
  show PostA X.K W σ [true] I H ((fa env).bind fun x => (BW.R.ok []).bind fun y => .ok (x :: y)) _
  cases h1 : fa env with
  | no => rw [h1] at q0; exact q0.elim
  | er n p => rw [h1] at q0; exact q0
  | ok x =>
    rw [h1] at q0
    have q0 : PostI X.K W σ I H ((zipD.seqZ x).bind fun x => match x with
      | .lst l => .ok (.lst (enuL l))
      | _ => .no) R := q0
    intro vs I' H' g ar
    cases ar with
    | st r1 ar =>
      cases ar
      rcases seqZ_or x with ⟨l, hx⟩ | hx
      · rw [hx] at q0
        obtain ⟨p1, k1, us, ds, rfl, e1, m1, m2⟩ := seqK_of r1 hx
        cases e1
        exact ⟨p1, rfl, k1, us, ex_k g.ih m1, q0 _ I' H' g (serves_enum m1 m2)⟩
      · rw [hx] at q0; exact q0.elim⟩
end
end BW
/-! BCore48: when the field of a kept error may be read. -/
namespace BW
open PySem PySem.Spec PyProof.Rows L2
def tXfe (x : Str) (K : PySem.W.Frag) : Bool := xfB K (He.ga K x)
theorem tXfe_ok {x : Str} {K : PySem.W.Frag} (h : tXfe x K = true) : XfC K (He.ga K x) := xfB_ok h
open Evl (Ex Ex.refl Ex.trans Ex.new ex_rd ex_l ex_t)
section
variable {X : Cx} {W : WX} {A H0 : Hp} {a : Expr} {fa : F} {pos : Pos}
/-- .. of a class that is built in -/
theorem ve_isoXT (y : String) {tb : List (Nat × Bool)} {p q : Pos} (T : IsoT X.K (.type y) tb) (hm : X.mg "isinstance" = none) (hy : X.mg (Str.ofString y) = none) (hb : bootBuiltins (Str.ofString y) = some (.type y)) (ha : VE X W A H0 a fa) (hnT : Str.ofString y ≠ "__name__") (hg : Gl X "isinstance" := by rfl) (hg2 : Gl X (Str.ofString y) := by rfl) (hdT : (Str.ofString y == ("__debug__" : Str)) = false := by decide)
    (hs : starEach (a :: [.Name (Str.ofString y) q]) X.env = (false, eval a X.env) :: starEach [.Name (Str.ofString y) q] X.env := by rfl) (hs2 : starEach (.Name (Str.ofString y) q :: []) X.env = (false, eval (.Name (Str.ofString y) q) X.env) :: starEach [] X.env := by rfl) (hpl : (backTo pos (starEach [.Name (Str.ofString y) q] X.env)).any (·.1) = false := by rfl) :
    VE X W A H0 (.Call (.Name "isinstance" p) [a, .Name (Str.ofString y) q] [] pos) (f1 (isoXD tb) fa) :=
  pe_imp (pe_callB (CallR.or (CallR.or call_isi call_isX) call_isP) hg hm (by decide +kernel) (pa_cons ha (pa_cons (pe_bltn (v := .ty y) hg2 hy hb rfl hnT hdT) pa_nil hs2) hs) (by decide) (by decide) hs hpl) fun σ H Q ⟨env, I, rl, q⟩ => ⟨env, I, rl, isoX_run T (.ty y) q⟩
end
end BW
/-! BCore49: isinstance of None, or of a kept error. -/
namespace BW
open PySem PySem.Spec PyProof.Rows L2
open Evl (Ex Ex.refl Ex.trans Ex.new ex_rd ex_l ex_t)
def tKitN (u : PySem.W.Frag → Value) (K : PySem.W.Frag) : Bool := decide (PySem.W.kitOne K (.type "NoneType") (u K) = some false)
theorem tKitN_ok {u : PySem.W.Frag → Value} {K : PySem.W.Frag} (h : tKitN u K = true) : PySem.W.kitOne K (.type "NoneType") (u K) = some false := of_decide_eq_true h
def isoYD (tb : List (Nat × Bool)) (d : D) : R D := match d with
  | .non => .ok (.bl false)
  | d => isoXD tb d
theorem isoYD_or (tb : List (Nat × Bool)) (d : D) : d = .non ∨ isoYD tb d = isoXD tb d := by
  cases d with
  | non => exact .inl rfl
  | _ => exact .inr rfl
theorem isoY_run {W : WX} {K : PySem.W.Frag} {σ : L2.St} {I H : Hp} {u : Value} {tb : List (Nat × Bool)} (T : IsoT K u tb) (hN : PySem.W.kitOne K (.type "NoneType") u = some false) {cv : V} (hcv : ClsV cv u) {r : R D} {Q : VK} (q0 : PostE K W σ I H (r.bind (isoYD tb)) Q) :
    PostE K W σ I H r fun v H1 => (rIsi K [v, cv] H1 Q ∨ rIsX K [v, cv] H1 Q) ∨ rIsP K [v, cv] H1 Q := by
  cases r with
  | er c p => exact q0
  | no => exact q0.elim
  | ok d =>
    rcases isoYD_or tb d with rfl | hd
    · intro v I1 H1 g1 k
      have q2 : PostE K W σ I H (R.ok (.bl false)) Q := q0
      cases k
      exact .inl (.inl ⟨.non, cv, .type "NoneType", u, false, rfl, hcv, .base .non, hN, q2 _ I1 H1 g1 .bl⟩)
    · have q1 : PostE K W σ I H ((R.ok d).bind (isoXD tb)) Q := by
        show PostE K W σ I H (isoXD tb d) Q
        rw [← hd]; exact q0
      exact isoX_run T hcv q1
section
variable {X : Cx} {W : WX} {A H0 : Hp} {a : Expr} {fa : F} {pos : Pos}
theorem ve_isoY (y : Str) {Cy : Addr} {tb : List (Nat × Bool)} {p q : Pos} (T : IsoT X.K (.ref Cy) tb) (hN : PySem.W.kitOne X.K (.type "NoneType") (.ref Cy) = some false) (hm : X.mg "isinstance" = none) (hy : X.mg y = some (.ref Cy)) (ha : VE X W A H0 a fa) (hg : Gl X "isinstance" := by rfl) (hg2 : Gl X y := by rfl) (hdT : (y == ("__debug__" : Str)) = false := by decide)
    (hs : starEach (a :: [.Name y q]) X.env = (false, eval a X.env) :: starEach [.Name y q] X.env := by rfl) (hs2 : starEach (.Name y q :: []) X.env = (false, eval (.Name y q) X.env) :: starEach [] X.env := by rfl) (hpl : (backTo pos (starEach [.Name y q] X.env)).any (·.1) = false := by rfl) :
    VE X W A H0 (.Call (.Name "isinstance" p) [a, .Name y q] [] pos) (f1 (isoYD tb) fa) :=
  pe_imp (pe_callB (CallR.or (CallR.or call_isi call_isX) call_isP) hg hm (by decide +kernel) (pa_cons ha (pa_cons (pe_glob (v := .ref Cy) hg2 hy rfl hdT) pa_nil hs2) hs) (by decide) (by decide) hs hpl) fun σ H Q ⟨env, I, rl, q⟩ => ⟨env, I, rl, isoY_run T hN (.own Cy) q⟩
theorem ve_isoYT (y : String) {tb : List (Nat × Bool)} {p q : Pos} (T : IsoT X.K (.type y) tb) (hN : PySem.W.kitOne X.K (.type "NoneType") (.type y) = some false) (hm : X.mg "isinstance" = none) (hy : X.mg (Str.ofString y) = none) (hb : bootBuiltins (Str.ofString y) = some (.type y)) (ha : VE X W A H0 a fa) (hnT : Str.ofString y ≠ "__name__") (hg : Gl X "isinstance" := by rfl) (hg2 : Gl X (Str.ofString y) := by rfl) (hdT : (Str.ofString y == ("__debug__" : Str)) = false := by decide)
    (hs : starEach (a :: [.Name (Str.ofString y) q]) X.env = (false, eval a X.env) :: starEach [.Name (Str.ofString y) q] X.env := by rfl) (hs2 : starEach (.Name (Str.ofString y) q :: []) X.env = (false, eval (.Name (Str.ofString y) q) X.env) :: starEach [] X.env := by rfl) (hpl : (backTo pos (starEach [.Name (Str.ofString y) q] X.env)).any (·.1) = false := by rfl) :
    VE X W A H0 (.Call (.Name "isinstance" p) [a, .Name (Str.ofString y) q] [] pos) (f1 (isoYD tb) fa) :=
  pe_imp (pe_callB (CallR.or (CallR.or call_isi call_isX) call_isP) hg hm (by decide +kernel) (pa_cons ha (pa_cons (pe_bltn (v := .ty y) hg2 hy hb rfl hnT hdT) pa_nil hs2) hs) (by decide) (by decide) hs hpl) fun σ H Q ⟨env, I, rl, q⟩ => ⟨env, I, rl, isoY_run T hN (.ty y) q⟩
end
end BW
/-! BCore50: defs that hand back a pair of a scalar and a new list. -/
namespace BW
open PySem PySem.Spec PyProof.Rows L2
open Evl (Ex Ex.refl Ex.trans Ex.new ex_rd ex_l ex_t)
def PostQ (K : PySem.W.Frag) (W : WX) (σ : L2.St) (I H : Hp) (r : R D) (Q : VK) : Prop := match r with
  | .ok (.tup [x, .lst ds]) => (match x.sc with
    | some w => ∀ t ob p vs I' H', Grow I H I' H' → ob.dict = none → H t = none → I' t = none → H' t = some (.frz ob (.tup [w, .ref p])) → H p = none → I' p = none → H' p = some (.lst vs) → RdA K I' vs ds → Q (.ref t) H'
    | none => False)
  | .er c p => ∀ cls od I' H', Grow I H I' H' → ErrIs K c p cls od I' → W cls od σ H'
  | _ => False
def rdQ (K : PySem.W.Frag) (W : WX) (A H0 : Hp) (f : F) : TE := fun σ H Q => ∃ env I, Rel K A H0 env σ I H ∧ PostQ K W σ I H (f env) Q
def VQ (X : Cx) (W : WX) (A H0 : Hp) (e : Expr) (f : F) : Prop := PE X e (rdQ X.K W A H0 f)
/-- is it such a pair -/
theorem D.pr_or (d : D) : (∃ x w l, d = .tup [x, .lst l] ∧ x.sc = some w) ∨ (∀ K W σ I H Q, ¬ PostQ K W σ I H (.ok d) Q) := by
  by_cases h : ∃ x l, d = .tup [x, .lst l]
  · obtain ⟨x, l, rfl⟩ := h
    cases hs : x.sc with
    | some w => exact .inl ⟨x, w, l, rfl, hs⟩
    | none =>
      refine .inr fun K W σ I H Q z => ?_
      have z1 : (match x.sc with
        | some w => ∀ t ob p vs I' H', Grow I H I' H' → ob.dict = none → H t = none → I' t = none → H' t = some (.frz ob (.tup [w, .ref p])) → H p = none → I' p = none → H' p = some (.lst vs) → RdA K I' vs l → Q (.ref t) H'
        | none => False) := z
      rw [hs] at z1
      exact z1
  · refine .inr fun K W σ I H Q z => ?_
    unfold PostQ at z
    split at z
    · rename_i x ds e
      have e' : d = .tup [x, .lst ds] := by injection e
      exact h ⟨_, _, e'⟩
    · rename_i e
      cases e
    · exact z
theorem PostQ.app {K : PySem.W.Frag} {W : WX} {σ : L2.St} {I H : Hp} {x : D} {w : V} {l : List D} {Q : VK} (hs : x.sc = some w) (h : PostQ K W σ I H (.ok (.tup [x, .lst l])) Q) :
    ∀ t ob p vs I' H', Grow I H I' H' → ob.dict = none → H t = none → I' t = none → H' t = some (.frz ob (.tup [w, .ref p])) → H p = none → I' p = none → H' p = some (.lst vs) → RdA K I' vs l → Q (.ref t) H' := by
  have z1 : (match x.sc with
    | some w => ∀ t ob p vs I' H', Grow I H I' H' → ob.dict = none → H t = none → I' t = none → H' t = some (.frz ob (.tup [w, .ref p])) → H p = none → I' p = none → H' p = some (.lst vs) → RdA K I' vs l → Q (.ref t) H'
    | none => False) := h
  rw [hs] at z1
  exact z1
theorem PostQ.mk {K : PySem.W.Frag} {W : WX} {σ : L2.St} {I H : Hp} {x : D} {w : V} {l : List D} {Q : VK} (hs : x.sc = some w) (h : ∀ t ob p vs I' H', Grow I H I' H' → ob.dict = none → H t = none → I' t = none → H' t = some (.frz ob (.tup [w, .ref p])) → H p = none → I' p = none → H' p = some (.lst vs) → RdA K I' vs l → Q (.ref t) H') : PostQ K W σ I H (.ok (.tup [x, .lst l])) Q := by
  show (match x.sc with
    | some w => ∀ t ob p vs I' H', Grow I H I' H' → ob.dict = none → H t = none → I' t = none → H' t = some (.frz ob (.tup [w, .ref p])) → H p = none → I' p = none → H' p = some (.lst vs) → RdA K I' vs l → Q (.ref t) H'
    | none => False)
  rw [hs]
  exact h
theorem PostR.appQ {K : PySem.W.Frag} {A H0 : Hp} {x : D} {w : V} {l : List D} {Q : VK} (hs : x.sc = some w) (h : PostR K A H0 true (.tup [x, .lst l]) Q) :
    ∀ t ob p vs I' H', Grow A H0 I' H' → ob.dict = none → H0 t = none → I' t = none → H' t = some (.frz ob (.tup [w, .ref p])) → H0 p = none → I' p = none → H' p = some (.lst vs) → RdA K I' vs l → Q (.ref t) H' := by
  have z1 : (match x.sc with
    | some w => ∀ t ob p vs I' H', Grow A H0 I' H' → ob.dict = none → H0 t = none → I' t = none → H' t = some (.frz ob (.tup [w, .ref p])) → H0 p = none → I' p = none → H' p = some (.lst vs) → RdA K I' vs l → Q (.ref t) H'
    | none => False) := h
  rw [hs] at z1
  exact z1
theorem PostR.mkQ {K : PySem.W.Frag} {A H0 : Hp} {x : D} {w : V} {l : List D} {Q : VK} (hs : x.sc = some w) (h : ∀ t ob p vs I' H', Grow A H0 I' H' → ob.dict = none → H0 t = none → I' t = none → H' t = some (.frz ob (.tup [w, .ref p])) → H0 p = none → I' p = none → H' p = some (.lst vs) → RdA K I' vs l → Q (.ref t) H') : PostR K A H0 true (.tup [x, .lst l]) Q := by
  show (match x.sc with
    | some w => ∀ t ob p vs I' H', Grow A H0 I' H' → ob.dict = none → H0 t = none → I' t = none → H' t = some (.frz ob (.tup [w, .ref p])) → H0 p = none → I' p = none → H' p = some (.lst vs) → RdA K I' vs l → Q (.ref t) H'
    | none => False)
  rw [hs]
  exact h
theorem PostR.noQ {K : PySem.W.Frag} {A H0 : Hp} {x : D} {l : List D} {Q : VK} (hs : x.sc = none) (h : PostR K A H0 true (.tup [x, .lst l]) Q) : False := by
  have z1 : (match x.sc with
    | some w => ∀ t ob p vs I' H', Grow A H0 I' H' → ob.dict = none → H0 t = none → I' t = none → H' t = some (.frz ob (.tup [w, .ref p])) → H0 p = none → I' p = none → H' p = some (.lst vs) → RdA K I' vs l → Q (.ref t) H'
    | none => False) := h
  rw [hs] at z1
  exact z1
section
variable {X : Cx} {W : WX} {A H0 : Hp} {c e : Expr} {f fc fe : F} {pos pos' : Pos}
/-- the laying of such a pair, handed back -/
theorem retQ_end {K : PySem.W.Frag} {env : En} {σ : L2.St} {I1 H1 : Hp} {v : V} {x : D} {l : List D} {a : Addr} {vs : List V} {Q : VK} (r : Rel K A H0 env σ I1 H1) (k : Rd K I1 v x) (h0 : H0 a = none) (hi : I1 a = none) (h1 : H1 a = some (.lst vs)) (h2 : RdA K I1 vs l) (q : PostR K A H0 true (.tup [x, .lst l]) Q) :
    [v, V.ref a].length ≤ sizeLine ∧ NewT [v, .ref a] H1 Q := by
  refine ⟨by show 2 ≤ sizeLine; decide, fun p ob hp hd => ?_⟩
  cases hs : x.sc with
  | none => exact (PostR.noQ hs q).elim
  | some w =>
    have hv : v = w := k.sc hs
    subst hv
    have nap : a ≠ p := fun z => by rw [z, hp] at h1; cases h1
    exact PostR.appQ hs q p ob a vs I1 _ (r.g.trans (Grow.hid r.g.ih (Ex.new hp))) hd (Evl.fresh_back r.g.h hp) (Evl.fresh_back r.g.ih hp) upd_same h0 hi (by rw [upd_ne nap]; exact h1) h2
theorem vs_retQ1 {x1} (hc : VE X W A H0 c fc) (he : VF X W A H0 e fe) (hs : starEach (c :: [e]) X.env = (false, eval c X.env) :: starEach [e] X.env := by rfl) (hs2 : starEach (e :: []) X.env = (false, eval e X.env) :: starEach [] X.env := by rfl) : VS X W A H0 true (.Return (some (.Tuple [c, e] x1 pos)) pos') (gRet (fA tupD (aCons fc (aCons (fLs fe) aNil)))) :=
  ps_imp (ps_ret (pe_tupN (pa_cons hc (pa_cons he pa_nil hs2) hs))) fun Z σ H ⟨env, I, r, q⟩ => ⟨env, I, r, by
    have q0 : PostS X.K W A H0 true I Z (.of env (((fc env).bind fun x => (((fe env).bind lsD).bind fun y => (R.ok []).bind fun z => .ok (y :: z)).bind fun y => .ok (x :: y)).bind tupD) fun d => .rt d) := q
    cases hc : fc env with
    | er k p => rw [hc] at q0; exact fun cls od I' H' g kk => q0 σ I' H' cls od (r.grow g) g.i kk
    | no => rw [hc] at q0; exact q0.elim
    | ok x =>
      rw [hc] at q0
      refine fun v I1 H1 g1 k1 => ⟨env, I1, r.grow g1, ?_⟩
      have q1 : PostS X.K W A H0 true I Z (.of env (((((fe env).bind lsD).bind fun y => (R.ok []).bind fun z => .ok (y :: z)).bind fun y => .ok (x :: y)).bind tupD) fun d => .rt d) := q0
      cases he : fe env with
      | er k p => rw [he] at q1; exact fun cls od I' H' g kk => q1 σ I' H' cls od ((r.grow g1).grow g) (g1.i.trans g.i) kk
      | no => rw [he] at q1; exact q1.elim
      | ok d =>
        rw [he] at q1
        rcases D.lst_or d with ⟨l, rfl⟩ | hd
        · have q2 : PostR X.K A H0 true (.tup [x, .lst l]) Z.rt := q1
          exact fun a vs I2 H2 g2 h0 hi h1 h2 => retQ_end ((r.grow g1).grow g2) (k1.mono g2.i) (Evl.fresh_back (r.grow g1).g.h h0) hi h1 h2 q2
        · cases d <;> first | exact absurd rfl (hd _) | exact q1.elim⟩
theorem vs_retQm {x1} (i : Nat) {x : Str} {p : Pos} (hc : VE X W A H0 c fc) (hN : X.N[i]? = some x := by rfl) (hv : Vis X.env.scope x := by first | exact Or.inl rfl | exact Or.inr (Or.inl rfl) | exact Or.inr (Or.inr rfl)) (hd : (x == ("__debug__" : Str)) = false := by decide) (hcd : (x == ("__classdict__" : Str)) = false := by decide)
    (hs : starEach (c :: [.Name x p]) X.env = (false, eval c X.env) :: starEach [.Name x p] X.env := by rfl) (hs2 : starEach (.Name x p :: []) X.env = (false, eval (.Name x p) X.env) :: starEach [] X.env := by rfl) : VS X W A H0 true (.Return (some (.Tuple [c, .Name x p] x1 pos)) pos') (gRet (fA tupD (aCons fc (aCons (fM i) aNil)))) :=
  ps_imp (ps_ret (pe_tupN (pa_cons hc (pa_cons (pe_var hN hv hd hcd) pa_nil hs2) hs))) fun Z σ H ⟨env, I, r, q⟩ => ⟨env, I, r, by
    have q0 : PostS X.K W A H0 true I Z (.of env (((fc env).bind fun x => ((fM i env).bind fun y => (R.ok []).bind fun z => .ok (y :: z)).bind fun y => .ok (x :: y)).bind tupD) fun d => .rt d) := q
    cases hc : fc env with
    | er k p => rw [hc] at q0; exact fun cls od I' H' g kk => q0 σ I' H' cls od (r.grow g) g.i kk
    | no => rw [hc] at q0; exact q0.elim
    | ok x =>
      rw [hc] at q0
      have q1 : PostS X.K W A H0 true I Z (.of env ((((fM i env).bind fun y => (R.ok []).bind fun z => .ok (y :: z)).bind fun y => .ok (x :: y)).bind tupD) fun d => .rt d) := q0
      intro v I1 H1 g1 k1
      unfold fM at q1
      cases he : env[i]? with
      | none => rw [he] at q1; exact q1.elim
      | some s =>
        rw [he] at q1
        cases s with
        | mu l =>
          have q2 : PostR X.K A H0 true (.tup [x, .lst l]) Z.rt := q1
          obtain ⟨a, vs, h1, h2, h3, h4, h5⟩ := (r.grow g1).mu i l he
          exact ⟨.ref a, h1, retQ_end (r.grow g1) k1 h4 h3 h2 h5 q2⟩
        | _ => exact q1.elim⟩
/-- such a pair, or nothing -/
def prD (d : D) : R D := match d with
  | .tup [x, .lst l] => if x.sc.isSome then .ok (.tup [x, .lst l]) else .no
  | _ => .no
theorem ve_of_vq (h : VQ X W A H0 e f) : VE X W A H0 e (f1 prD f) := pe_imp h fun σ H Q ⟨env, I, r, q⟩ => ⟨env, I, r, by
  have q0 : PostE X.K W σ I H ((f env).bind prD) Q := q
  cases hf : f env with
  | er k p => rw [hf] at q0; exact q0
  | no => rw [hf] at q0; exact q0.elim
  | ok d =>
    rw [hf] at q0
    by_cases hd : ∃ x l, d = .tup [x, .lst l]
    · obtain ⟨x, l, rfl⟩ := hd
      have q1 : PostE X.K W σ I H (if x.sc.isSome then .ok (.tup [x, .lst l]) else .no) Q := q0
      cases hs : x.sc with
      | some w =>
        rw [hs] at q1
        have q1 : PostE X.K W σ I H (.ok (.tup [x, .lst l])) Q := q1
        refine PostQ.mk hs fun t ob p vs I' H' g ho h0 hi h1 h2 h3 h4 h5 => ?_
        have ntp : t ≠ p := fun z => by rw [z, h4] at h1; cases h1
        have g1 := g.add h2 h3 h4
        have g2 := g1.add h0 (by rw [upd_ne ntp]; exact hi) h1
        exact q1 (.ref t) _ H' g2 (.tup ⟨ob, ho, upd_same⟩ (.cons (Rd.of_sc hs) (.cons (.lst (by rw [upd_ne (fun z => ntp z.symm), upd_same]) (h5.mono ((Ex.new h3).trans (Ex.new (by rw [upd_ne ntp]; exact hi))))) .nil)))
      | none => rw [hs] at q1; exact q1.elim
    · have : prD d = .no := by
        unfold prD
        split
        · exact absurd ⟨_, _, rfl⟩ hd
        · rfl
      have q1 : PostE X.K W σ I H (prD d) Q := q0
      rw [this] at q1
      exact q1.elim⟩
/-- the new list of such a pair -/
def q1D (d : D) : R D := match d with
  | .tup [_, .lst l] => .ok (.lst l)
  | _ => .no
theorem vf_q1 {b : Expr} (h : VQ X W A H0 e f) (hb : VE X W A H0 b (fC (.int 1))) (hs : PlainIx b := by exact fun _ _ => rfl) : VF X W A H0 (.Subscript e b pos) (f1 prD f |> f1 q1D) := pe_imp (pe_ix ix_seq h hb hs) fun σ H Q ⟨env, I, r, q⟩ => ⟨env, I, r, by
  have q0 : PostF X.K W σ I H (((f env).bind prD).bind q1D) Q := q
  cases hf : f env with
  | er k p => rw [hf] at q0; exact q0
  | no => rw [hf] at q0; exact q0.elim
  | ok d =>
    rw [hf] at q0
    by_cases hd : ∃ x l, d = .tup [x, .lst l]
    · obtain ⟨x, l, rfl⟩ := hd
      have q1 : PostF X.K W σ I H ((if x.sc.isSome then R.ok (.tup [x, .lst l]) else .no).bind q1D) Q := q0
      cases hs : x.sc with
      | some w =>
        rw [hs] at q1
        have q1 : PostF X.K W σ I H (.ok (.lst l)) Q := q1
        refine PostQ.mk hs fun t ob p vs I' H' g ho h0 hi h1 h2 h3 h4 h5 => ⟨env, I', r.grow g, fun y I2 H2 g2 k2 => ?_⟩
        cases k2
        exact .inr (.inl ⟨t, [w, .ref p], 1, .ref p, rfl, rfl, .inl (.inr ⟨ob, g2.h _ _ h1⟩), rfl, q1 p vs I2 H2 (g.trans g2) h2 (by
          cases q3 : I2 p with
          | none => rfl
          | some o =>
            rcases g2.new p o q3 with z | z
            · rw [h3] at z; cases z
            · rw [h4] at z; cases z) (g2.h _ _ h4) (h5.mono g2.i)⟩)
      | none => rw [hs] at q1; exact q1.elim
    · have : prD d = .no := by
        unfold prD
        split
        · exact absurd ⟨_, _, rfl⟩ hd
        · rfl
      have q1 : PostF X.K W σ I H ((prD d).bind q1D) Q := q0
      rw [this] at q1
      exact q1.elim⟩
end
/-! ### defs of this kind -/
def spQ (K : PySem.W.Frag) (fl : List Bool) (m : List D → R D) : Sp := fun vs H Q E => ∃ ds I, Ex I H ∧ ArgsOk K I H fl vs ds ∧ PostQ K (fun cls od _ H' => E cls od H') [] I H (m ds) Q
section
variable {P : Program} {w : World} {K : PySem.W.Frag} {mg : Str → Option Value} {base : Heap}
theorem fn_newQ {x qual : Str} {st : Stmt} {f : Addr} {fd : FuncData} {N ps : List Str} {k : Nat} {fl : List Bool} {g : G} (F0 : Fn K x qual st f fd) (S : FnScope N ps (defScope st)) (hfl : fl.length = ps.length := by rfl) (hn : fl.length ≤ N.length := by decide)
    (body : ∀ (cdv : Value) (A : Around) (outer : List PySem.Env) (s : Shared) (H I : Hp) (E : XK), Room k (A.deeper (envOfC qual (defScope st) s.heap.objs.size f cdv)) → Takes (Cb P w K mg base N qual st f cdv A outer s H E) (WB E) →
      PassesOwn (model P w) (A.deeper (envOfC qual (defScope st) s.heap.objs.size f cdv)) (envOfC qual (defScope st) s.heap.objs.size f cdv) (Cb P w K mg base N qual st f cdv A outer s H E).xe → VSs (Cb P w K mg base N qual st f cdv A outer s H E) (WB E) I H true (defBody st) g) :
    FnOk P w K mg base (L2.CX P w) (k + 1) f fd ps (spQ K fl (defN N.length fl g)) := by
  refine F0.ok S (fun vs H Q E ⟨_, _, _, a, _⟩ => a.length.trans hfl) fun cdv A outer s H vs Q E hr h => ?_
  obtain ⟨ds, I, ie, ha, q⟩ := h
  refine ⟨_, body cdv A outer s H I E hr (takes_of rfl rfl rfl rfl) (passes_of rfl), env0 N.length fl ds, I, rel0 ie ha hn, ?_⟩
  have hl : ds.length = fl.length := argsLen ha
  have q1 : PostQ K (WB E) [] I H (if ds.length = fl.length then outN (g (env0 N.length fl ds)) else .no) Q := q
  rw [if_pos hl] at q1
  cases hg : g (env0 N.length fl ds) with
  | nx e => rw [hg] at q1; exact q1.elim
  | rt d =>
    rw [hg] at q1
    have q2 : PostQ K (WB E) [] I H (.ok d) Q := q1
    rcases D.pr_or d with ⟨x, w, l, rfl, hs⟩ | hd
    · exact PostR.mkQ hs (PostQ.app hs q2)
    · exact absurd q2 (hd _ _ _ _ _ _)
  | er e c p => rw [hg] at q1; exact fun σ' I' H' cls od r _ kk => q1 cls od I' H' r.g kk
  | bk e => rw [hg] at q1; exact q1.elim
  | ct e => rw [hg] at q1; exact q1.elim
  | no => rw [hg] at q1; exact q1.elim
structure CalQ (P : Program) (w : World) (K : PySem.W.Frag) (mg : Str → Option Value) (base : Heap) (x : Str) (k : Nat) (fl : List Bool) (m : List D → R D) : Prop where
  ex : ∃ (f : Addr) (fd : FuncData) (ps : List Str), FnOk P w K mg base (L2.CX P w) k f fd ps (spQ K fl m) ∧ mg x = some (.ref f) ∧ PySem.W.keepIn K (.ref f) = true ∧ Binds K fd ps []
end
section
variable {X : Cx} {W : WX} {A H0 : Hp} {e : Expr} {pos : Pos} {x : Str} {j k : Nat} {fl : List Bool} {m : List D → R D} {es : List Expr} {fs : FA} {p : Pos}
theorem vq_cal (C : CalQ X.prog X.w X.K X.mg X.base x k fl m) (hr : Room j X.A) (tk : Takes X W) (ha : VA X W A H0 (e :: es) fl fs) (hk : k ≤ j := by decide) (hg : Gl X x := by rfl) (hdb : (x == ("__debug__" : Str)) = false := by decide) (he : starEach (e :: es) X.env = (false, eval e X.env) :: starEach es X.env := by rfl) (hpl : (backTo pos (starEach es X.env)).any (·.1) = false := by rfl) :
    VQ X W A H0 (.Call (.Name x p) (e :: es) [] pos) (fA m fs) := by
  obtain ⟨f, fd, ps, Fn, h1, h2, h3⟩ := C.ex
  exact pe_imp (pe_callS Fn (hr.mono hk) hg h1 h2 h3 (fun σ => passAt tk σ) ha hdb he hpl) fun σ H Q ⟨env, I, rl, q⟩ => ⟨env, I, rl, by
    have q1 : PostQ X.K W σ I H ((fs env).bind m) Q := q
    cases hs : fs env with
    | ok ds =>
      rw [hs] at q1
      refine fun vs I1 H1 g1 k1 => ⟨ds, I1, g1.ih, k1, ?_⟩
      have q2 : PostQ X.K W σ I H (m ds) Q := q1
      cases hmd : m ds with
      | ok d =>
        rw [hmd] at q2
        rcases D.pr_or d with ⟨x, w, l, rfl, hx⟩ | hd
        · exact PostQ.mk hx fun t ob p vs I' H' g ho h0 hi h1 h2 h3 h4 h5 => PostQ.app hx q2 t ob p vs I' H' (g1.trans g) ho (Evl.fresh_back g1.h h0) hi h1 (Evl.fresh_back g1.h h2) h3 h4 h5
        · exact absurd q2 (hd _ _ _ _ _ _)
      | er c p => rw [hmd] at q2; exact fun cls od I2 H2 g2 k2 => q2 cls od I2 H2 (g1.trans g2) k2
      | no => rw [hmd] at q2; exact q2.elim
    | er c p => rw [hs] at q1; exact q1
    | no => rw [hs] at q1; exact q1.elim⟩
end
end BW
/-! BCore51: a new list, changed and dropped. -/
namespace BW
open PySem PySem.Spec PyProof.Rows L2
open Evl (Ex Ex.refl Ex.trans Ex.new ex_rd ex_l ex_t)
def appD (x y : D) : R D := match x with
  | .lst l => (match kApp l y with
    | some m => .ok (.lst m)
    | none => .no)
  | _ => .no
section
variable {X : Cx} {W : WX} {A H0 : Hp} {fr : Bool} {o e : Expr} {fo f : F} {pos : Pos}
theorem vs_appF {apos : Pos} (ho : VF X W A H0 o fo) (he : VE X W A H0 e f)
    (hs1 : starEach (e :: []) X.env = (false, eval e X.env) :: starEach [] X.env := by rfl)
    (hbase : attributeBase o "append" X.env (eval o X.env) = eval o X.env := by rfl)
    {cpos : Pos} (hfew : ((backTo cpos (starEach (e :: []) X.env)).all (fun x => !x.1) && (backToKw cpos (keywordEach [] X.env)).all (fun x => x.1.isSome) && decide ((e :: []).length + ([] : List Keyword).length + (if ([] : List Keyword).isEmpty then 0 else 1) < 30)) = true := by rfl)
    (hline : (apos.endLine == cpos.line) = true := by rfl) (hplain : (backTo cpos (starEach [] X.env)).any (·.1) = false := by rfl)
    (hs : swapsWith (.Call (.Attribute o "append" apos) [e] [] cpos) none pos.line X.env = pure false := by rfl) :
    VS X W A H0 fr (.Expr (.Call (.Attribute o "append" apos) [e] [] cpos) pos) (gDrop (f2 appD (fLs fo) f)) :=
  ps_imp (ps_expr (pe_bm PySem.F.plainAttrs_list PySem.F.slot_list_append PySem.F.type_list_append mt_append ho (pa_cons he pa_nil hs1) hbase hfew hline hs1 hplain) hs) fun Z σ H ⟨env, I, rl, q⟩ => ⟨env, I, rl, by
    have q0 : PostS X.K W A H0 fr I Z (.of env (((fo env).bind lsD).bind fun x => (f env).bind fun y => appD x y) fun _ => .nx env) := q
    cases ho : fo env with
    | er k p => rw [ho] at q0; exact fun cls od I' H' g kk => q0 σ I' H' cls od (rl.grow g) g.i kk
    | no => rw [ho] at q0; exact q0.elim
    | ok d =>
      rw [ho] at q0
      rcases D.lst_or d with ⟨l, rfl⟩ | hd
      · have q1 : PostS X.K W A H0 fr I Z (.of env ((f env).bind fun y => appD (.lst l) y) fun _ => .nx env) := q0
        intro a vs I1 H1 g1 h0 hi h1 h2
        refine ⟨ty_lst h1, env, I1, rl.grow g1, ?_⟩
        cases hf : f env with
        | er k p => rw [hf] at q1; exact fun cls od I' H' g kk => q1 σ I' H' cls od ((rl.grow g1).grow g) (g1.i.trans g.i) kk
        | no => rw [hf] at q1; exact q1.elim
        | ok y =>
          rw [hf] at q1
          intro v I2 H2 g2 k2
          cases hm : kApp l y with
          | none =>
            have q2 : PostS X.K W A H0 fr I Z (.of env (match kApp l y with | some m => R.ok (.lst m) | none => .no) fun _ => .nx env) := q1
            rw [hm] at q2
            exact q2.elim
          | some m =>
            have q2 : PostS X.K W A H0 fr I Z (.of env (match kApp l y with | some m => R.ok (.lst m) | none => .no) fun _ => .nx env) := q1
            rw [hm] at q2
            have q3 : PostS X.K W A H0 fr I Z (.nx env) := q2
            have g12 := g1.trans g2
            have i2 : I2 a = none := by
              cases z : I2 a with
              | none => rfl
              | some u =>
                rcases g2.new a u z with y | y
                · rw [hi] at y; cases y
                · rw [h1] at y; cases y
            show rAppend (.ref a) [v] H2 fun _ H1 => Z.nx σ H1
            refine mo_app a vs v l m y I2 H2 _ (g2.h _ _ h1) (h2.mono g2.i) g2.ih k2 hm fun ws _ => ?_
            refine q3 σ I2 _ (rl.grow ⟨g12.i, fun b u z => ?_, fun b u z => ?_, g12.new⟩) g12.i
            · have nb : b ≠ a := fun e => by rw [e, h0] at z; cases z
              rw [upd_ne nb]
              exact g12.h b u z
            · have nb : b ≠ a := fun e => by rw [e, i2] at z; cases z
              rw [upd_ne nb]
              exact g12.ih b u z
      · cases d <;> first | exact absurd rfl (hd _) | exact q0.elim⟩
end
end BW
/-! BCore52: names that own all within. -/
namespace BW
open PySem PySem.Spec PyProof.Rows L2
open Evl (Ex Ex.refl Ex.trans Ex.new ex_rd ex_l ex_t)
/-! ### facts on parts of the heap -/
theorem Own.grow {env : En} {σ : L2.St} {I H0 H J I' H' : Hp} (w : Own env σ I H0 H J) (g : Grow I H I' H') : Own env σ I' H0 H' J := ⟨w.h.trans g.h, (fun a o e => by
    cases q : I' a with
    | none => rfl
    | some u =>
      rcases g.new a u q with z | z
      · rw [w.i a o e] at z; cases z
      · rw [w.h a o e] at z; cases z), w.z, w.l, w.mu, w.md⟩
theorem nol_ex {I : Hp} : Ex (nol I) I := fun a o h => (nol_some h).1
theorem nol_or {I : Hp} : ∀ a o, I a = some o → nol I a = some o ∨ ∃ vs, o = .lst vs := fun a o h => by
  by_cases c : ∃ vs, o = .lst vs
  · exact .inr c
  · exact .inl (nol_mk h fun vs e => c ⟨vs, e⟩)
theorem back_nol {I : Hp} : back (nol I) I I = nol I := funext fun a => by
  unfold back
  cases h : nol I a with
  | some o => rfl
  | none => cases q : I a <;> rfl
theorem Rd.nol {K : PySem.W.Frag} {I : Hp} {v : V} {d : D} (h : Rd K I v d) (e : lf d = true) : Rd K (nol I) v d := by
  have z := Rd.back (I := BW.nol I) (J := I) (J' := I) nol_ex (Ex.refl _) nol_or h e
  rwa [back_nol] at z
theorem ArgsOk.nol {K : PySem.W.Frag} {I H : Hp} : ∀ {fl : List Bool} {vs : List V} {ds : List D}, ArgsOk K I H fl vs ds → lfA ds = true → ArgsOk K (nol I) H fl vs ds
  | _, _, _, .nil, _ => .nil
  | _, _, _, .st (d := d) (ds := ds) h q, e => .st (h.nol (Bool.and_eq_true_iff.mp (show (lf d && lfA ds) = true from e)).1) (ArgsOk.nol q (Bool.and_eq_true_iff.mp (show (lf d && lfA ds) = true from e)).2)
  | _, _, _, .lo (d := d) (ds := ds) h q, e => .lo h (ArgsOk.nol q (Bool.and_eq_true_iff.mp (show (lf d && lfA ds) = true from e)).2)
/-- the new lists -/
def newL (I1 I2 : Hp) : Hp := fun a => match nol I1 a with
  | some _ => none
  | none => match I2 a with
    | some (.lst us) => some (.lst us)
    | _ => none
theorem newL_some {I1 I2 : Hp} {a : Addr} {o : HO} (h : newL I1 I2 a = some o) : nol I1 a = none ∧ I2 a = some o ∧ ∃ us, o = .lst us := by
  unfold newL at h
  cases q : nol I1 a with
  | some u => rw [q] at h; cases h
  | none =>
    rw [q] at h
    cases z : I2 a with
    | none => rw [z] at h; cases h
    | some u =>
      rw [z] at h
      cases u <;> first | (cases h; done) | (cases h; exact ⟨rfl, rfl, _, rfl⟩)
theorem newL_mk {I1 I2 : Hp} {a : Addr} {us : List V} (h1 : nol I1 a = none) (h2 : I2 a = some (.lst us)) : newL I1 I2 a = some (.lst us) := by
  unfold newL
  rw [h1, h2]
/-- what a call tells, its told part without lists -/
theorem own_of {K : PySem.W.Frag} {I H I1 H1 I2 H2 : Hp} {v : V} {d : D} (g1 : Grow I H I1 H1) (g2 : Grow (nol I1) H1 I2 H2) (k : Rd K I2 v d) :
    Grow I H (mrg I1 (nol I2)) H2 ∧ Ex (newL I1 I2) H2 ∧ (∀ a o, newL I1 I2 a = some o → mrg I1 (nol I2) a = none ∧ H a = none ∧ ∃ us, o = .lst us) ∧ Rd K (mrg (nol (mrg I1 (nol I2))) (newL I1 I2)) v d := by
  have j : ∀ a o, newL I1 I2 a = some o → mrg I1 (nol I2) a = none ∧ H a = none ∧ ∃ us, o = .lst us := fun a o e => by
    obtain ⟨e1, e2, us, rfl⟩ := newL_some e
    have h1 : H1 a = none := by
      rcases g2.new a _ e2 with z | z
      · rw [e1] at z; cases z
      · exact z
    have i1 : I1 a = none := Evl.fresh_back g1.ih h1
    refine ⟨?_, Evl.fresh_back g1.h h1, us, rfl⟩
    rw [mrg_r i1]
    unfold nol
    rw [e2]
  refine ⟨g1.trans ⟨fun a o e => mrg_l e, g2.h, fun a o e => ?_, fun a o e => ?_⟩, fun a o e => g2.ih a o (newL_some e).2.1, j, Rd.mono (fun a o e => ?_) k⟩
  · rcases mrg_or e with z | ⟨_, z⟩
    · exact g2.h a o (g1.ih a o z)
    · exact g2.ih a o (nol_some z).1
  · rcases mrg_or e with z | ⟨z1, z⟩
    · exact .inl z
    · rcases g2.new a o (nol_some z).1 with y | y
      · rw [(nol_some y).1] at z1; cases z1
      · exact .inr y
  · rcases nol_or a o e with z | ⟨us, rfl⟩
    · refine mrg_l (nol_mk ?_ (nol_some z).2)
      cases q : I1 a with
      | some u =>
        rw [mrg_l q]
        have := (g2.h a u (g1.ih a u q)).symm.trans (g2.ih a o e)
        exact this
      | none => rw [mrg_r q]; exact z
    · have n1 : nol I1 a = none := by
        cases q : nol I1 a with
        | none => rfl
        | some u =>
          have := (g2.i a u q).symm.trans e
          cases this
          exact absurd rfl ((nol_some q).2 us)
      have jn := newL_mk n1 e
      rw [mrg_r (nol_none (j a _ jn).1)]
      exact jn
theorem errIs_up {K : PySem.W.Frag} {I I' : Hp} {c : Nat} {p : List D} {cls : Value} {od : Option Addr} (e : Ex I I') (h : ErrIs K c p cls od I) : ErrIs K c p cls od I' := by
  refine ⟨h.1, ?_⟩
  have h2 := h.2
  match p, h2 with
  | [], h2 => exact h2
  | [d], h2 =>
    obtain ⟨dx, v, h3, h4, h5⟩ := h2
    exact ⟨dx, v, h3, h4, e _ _ h5⟩
/-! ### a name set -/
/-- what is told is new all through -/
def PostP1 (K : PySem.W.Frag) (W : WX) (σ : L2.St) (I H : Hp) (r : R D) (Q : VK) : Prop := match r with
  | .ok d => ∀ v J I' H', Grow I H I' H' → Ex J H' → (∀ a o, J a = some o → I' a = none ∧ H a = none ∧ ∃ us, o = .lst us) → Rd K (mrg (nol I') J) v d → Q v H'
  | .er c p => ∀ cls od I' H', Grow I H I' H' → ErrIs K c p cls od I' → W cls od σ H'
  | .no => False
def rdP1 (K : PySem.W.Frag) (W : WX) (A H0 : Hp) (f : F) : TE := fun σ H Q => ∃ env I, Rel K A H0 env σ I H ∧ PostP1 K W σ I H (f env) Q
def VP1 (X : Cx) (W : WX) (A H0 : Hp) (e : Expr) (f : F) : Prop := PE X e (rdP1 X.K W A H0 f)
def mW (m : List D → R D) : List D → R D := fun ds => if lfA ds then m ds else .no
def gSetW (i : Nat) (f : F) : G := fun env => .of env (f env) fun d => .nx (env.set i (.ow (.d d)))
section
variable {K : PySem.W.Frag} {A H0 : Hp} {env : En} {σ : L2.St} {I H I' H' : Hp}
theorem Rel.put_ow (r : Rel K A H0 env σ I H) {i : Nat} {v : V} {d : Ow} {J : Hp} (w : Own env σ I H0 H J) (h : RdW K I J v d) (hs : i < env.length → σ[i]? = some (some v)) : Rel K A H0 (env.set i (.ow d)) σ I H := by
  have tr : ∀ (j : Nat) (s : Sl), (∀ o, s ≠ .ow o) → (env.set i (.ow d))[j]? = some s → env[j]? = some s := fun j s hs e => by
    rcases set_get e with ⟨_, z⟩ | ⟨hij, z⟩
    · exact absurd z (hs _)
    · exact z
  refine ⟨r.g, by rw [List.length_set, r.len], fun j e he => r.im j e (tr j _ (fun _ z => nomatch z) he), fun j l he => r.mu j l (tr j _ (fun _ z => nomatch z) he), fun j e he => r.bo j e (tr j _ (fun _ z => nomatch z) he),
    fun j k l m a h1 h2 h3 h4 => r.ap j k l m a (tr j _ (fun _ z => nomatch z) h1) (tr k _ (fun _ z => nomatch z) h2) h3 h4, fun j ks l he => r.md j ks l (tr j _ (fun _ z => nomatch z) he),
    fun j k ks ls l m a h1 h2 h3 h4 => r.apd j k ks ls l m a (tr j _ (fun _ z => nomatch z) h1) (tr k _ (fun _ z => nomatch z) h2) h3 h4, fun j o e => ?_⟩
  have w' : ∀ {J : Hp}, Own env σ I H0 H J → Own (env.set i (.ow d)) σ I H0 H J := fun w => w.less (fun j l e => ⟨⟨l, tr j _ (fun _ z => nomatch z) e⟩, rfl⟩) (fun j ks l e => ⟨⟨ks, l, tr j _ (fun _ z => nomatch z) e⟩, rfl⟩)
  have hl : j < env.length := by
    have := (List.getElem?_eq_some_iff.mp e).1
    rwa [List.length_set] at this
  rcases set_get e with ⟨z, y⟩ | ⟨hij, z⟩
  · subst z
    cases y
    exact ⟨v, J, hs hl, w' w, h⟩
  · obtain ⟨v', J', h1, h2, h3⟩ := r.ow j o z
    exact ⟨v', J', h1, w' h2, h3⟩
theorem Rel.set_ow (r : Rel K A H0 env σ I H) (g : Grow I H I' H') {i : Nat} {v : V} {d : Ow} {J : Hp} (hj : Ex J H') (hn : ∀ a o, J a = some o → I' a = none ∧ H a = none ∧ ∃ us, o = .lst us) (h : RdW K I' J v d) : Rel K A H0 (env.set i (.ow d)) (σ.set i (some v)) I' H' := by
  have r1 := r.grow g
  have r2 : Rel K A H0 (env.set i .no) (σ.set i (some v)) I' H' := r1.less (by rw [List.length_set]) (by rw [List.length_set]) fun j s e => by
    rcases set_get e with ⟨_, z⟩ | ⟨hij, z⟩
    · exact .inl z
    · exact .inr ⟨z, List.getElem?_set_ne hij⟩
  have fr : ∀ {a : Addr} {o : HO}, H a = some o → J a = none := fun {a o} e => by
    cases q : J a with
    | none => rfl
    | some u => rw [(hn a u q).2.1] at e; cases e
  have w : Own (env.set i .no) (σ.set i (some v)) I' H0 H' J := by
    refine Own.set ⟨hj, fun a o e => (hn a o e).1, fun a o e => Evl.fresh_back r.g.h (hn a o e).2.1, fun a o e => (hn a o e).2.2, fun j l a e s => ?_, fun j ks l a e s => ?_⟩ (fun _ z => nomatch z) (fun _ _ z => nomatch z)
    · obtain ⟨b, vs, h1, h2, _⟩ := r.mu j l e
      rw [s] at h1
      cases h1
      exact fr h2
    · obtain ⟨b, vs, h1, h2, _⟩ := r.md j ks l e
      rw [s] at h1
      cases h1
      exact fr h2
  have r3 := r2.put_ow (i := i) w h (fun hl => List.getElem?_set_self (by rw [List.length_set] at hl; rw [r.len]; exact hl))
  rwa [List.set_set] at r3
end
section
variable {X : Cx} {W : WX} {A H0 : Hp} {fr : Bool} {e : Expr} {f : F} {pos : Pos}
theorem setW_run {i : Nat} {Z : Ends} {σ : L2.St} {H : Hp} (h : rdS X.K W A H0 fr (gSetW i f) Z σ H) : rdP1 X.K W A H0 f σ H (fun x H1 => gName i x σ H1 Z.nx) := by
  obtain ⟨env, I, r, q⟩ := h
  refine ⟨env, I, r, ?_⟩
  unfold gSetW at q
  cases hf : f env with
  | ok d =>
    rw [hf] at q
    exact fun v J I' H' g hj hn k => q _ I' H' (r.set_ow (d := .d d) g hj hn k) g.i
  | er c p => rw [hf] at q; exact fun cls od I' H' g kk => q σ I' H' cls od (r.grow g) g.i kk
  | no => rw [hf] at q; exact q.elim
theorem vs_setW (i : Nat) {x : Str} {pos' : Pos} (hN : X.N.Nodup) (he : VP1 X W A H0 e f) (hi : X.N[i]? = some x := by rfl) (hx : Loc X.env.scope x := by first | exact .inl rfl | exact .inr rfl) (hs : swapsWith e (some (.Name x pos')) pos.line X.env = pure false := by rfl) (hf : X.fn x = true ∨ X.env.scope.names.lookup x = some .local := by first | exact .inl rfl | exact .inr rfl | assumption) :
    VS X W A H0 fr (.Assign [.Name x pos'] e pos) (gSetW i f) := ps_imp (ps_set hN hi hx he hs hf) fun Z σ H h => setW_run h
end
section
variable {X : Cx} {W : WX} {A H0 : Hp} {e : Expr} {pos : Pos} {x : Str} {j k : Nat} {fl : List Bool} {m : List D → R D} {es : List Expr} {fs : FA} {p : Pos}
theorem vp1_cal (C : Cal X.prog X.w X.K X.mg X.base x k fl m) (hr : Room j X.A) (tk : Takes X W) (ha : VA X W A H0 (e :: es) fl fs) (hk : k ≤ j := by decide) (hg : Gl X x := by rfl) (hdb : (x == ("__debug__" : Str)) = false := by decide) (he : starEach (e :: es) X.env = (false, eval e X.env) :: starEach es X.env := by rfl) (hpl : (backTo pos (starEach es X.env)).any (·.1) = false := by rfl) :
    VP1 X W A H0 (.Call (.Name x p) (e :: es) [] pos) (fA (mW m) fs) := by
  obtain ⟨f, fd, ps, Fn, h1, h2, h3⟩ := C.ex
  exact pe_imp (pe_callS Fn (hr.mono hk) hg h1 h2 h3 (fun σ => passAt tk σ) ha hdb he hpl) fun σ H Q ⟨env, I, rl, q⟩ => ⟨env, I, rl, by
    have q1 : PostP1 X.K W σ I H ((fs env).bind (mW m)) Q := q
    cases hs : fs env with
    | ok ds =>
      rw [hs] at q1
      refine fun vs I1 H1 g1 k1 => ?_
      have q2 : PostP1 X.K W σ I H (if lfA ds then m ds else .no) Q := q1
      by_cases hl : lfA ds = true
      · rw [if_pos hl] at q2
        refine ⟨ds, nol I1, nol_ex.trans g1.ih, k1.nol hl, ?_⟩
        cases hmd : m ds with
        | ok d =>
          rw [hmd] at q2
          intro v I2 H2 g2 k2
          obtain ⟨o1, o2, o3, o4⟩ := own_of g1 g2 k2
          exact q2 v _ _ H2 o1 o2 o3 o4
        | er c p =>
          rw [hmd] at q2
          intro cls od I2 H2 g2 k2
          refine q2 cls od (mrg I1 I2) H2 (g1.trans ⟨fun a o e => mrg_l e, g2.h, fun a o e => ?_, fun a o e => ?_⟩) (errIs_up (fun a o e => ?_) k2)
          · rcases mrg_or e with z | ⟨_, z⟩
            · exact g2.h a o (g1.ih a o z)
            · exact g2.ih a o z
          · rcases mrg_or e with z | ⟨z1, z⟩
            · exact .inl z
            · rcases g2.new a o z with y | y
              · rw [(nol_some y).1] at z1; cases z1
              · exact .inr y
          · cases q : I1 a with
            | some u =>
              rw [mrg_l q]
              exact (g2.h a u (g1.ih a u q)).symm.trans (g2.ih a o e)
            | none => rw [mrg_r q]; exact e
        | no => rw [hmd] at q2; exact q2.elim
      · rw [if_neg hl] at q2
        exact q2.elim
    | er c p => rw [hs] at q1; exact q1
    | no => rw [hs] at q1; exact q1.elim⟩
end
/-! ### lent to an expression -/
def noO : Sl → Sl
  | .ow _ => .no
  | s => s
def forO (env : En) : En := env.map noO
theorem forO_get {env : En} {j : Nat} {s : Sl} (h : (forO env)[j]? = some s) : (s = .no ∨ env[j]? = some s) ∧ ∀ o, s ≠ .ow o := by
  unfold forO at h
  rw [List.getElem?_map] at h
  cases e : env[j]? with
  | none => rw [e] at h; cases h
  | some t =>
    rw [e] at h
    have h' : noO t = s := Option.some.inj h
    subst h'
    cases t <;> first | exact ⟨.inr rfl, fun _ z => nomatch z⟩ | exact ⟨.inl rfl, fun _ z => nomatch z⟩
def frzO (i : Nat) (env : En) : En := match env[i]? with
  | some (.ow (.d d)) => (forO env).set i (.im d)
  | _ => env
def fLendO (i : Nat) (f : F) : F := fun env => (f (frzO i env)).bind lfD
section
variable {K : PySem.W.Frag} {A H0 : Hp} {env : En} {σ : L2.St} {I H I' H' : Hp}
theorem forO_len : (forO env).length = env.length := by unfold forO; rw [List.length_map]
theorem Rel.forO {i : Nat} (r : Rel K A H0 env σ I H) : Rel K A H0 ((BW.forO env).set i .no) σ I H := r.less (by rw [List.length_set, forO_len]) rfl fun j s e => by
  rcases set_get e with ⟨_, z⟩ | ⟨_, z⟩
  · exact .inl z
  · rcases (forO_get z).1 with y | y
    · exact .inl y
    · exact .inr ⟨y, rfl⟩
theorem forO_no {i : Nat} {s : Sl} (hs : ∀ o, s ≠ .ow o) (j : Nat) (o : Ow) : ((forO env).set i s)[j]? ≠ some (.ow o) := fun e => by
  rcases set_get e with ⟨_, z⟩ | ⟨_, z⟩
  · exact hs _ z.symm
  · exact (forO_get z).2 _ rfl
theorem Rel.freezeO (r : Rel K A H0 env σ I H) {i : Nat} {d : D} (he : env[i]? = some (Sl.ow (.d d))) : ∃ I', Ex I I' ∧ (∀ b o, I' b = some o → I b = some o ∨ ∃ us, o = .lst us) ∧ Rel K A H0 ((BW.forO env).set i (.im d)) σ I' H := by
  obtain ⟨v, J, h1, w, h3⟩ := r.ow i _ he
  have ei : Ex I (mrg I J) := fun a o e => mrg_l e
  have gt : ∀ (j : Nat) (s : Sl), s ≠ .no → (∀ e, s ≠ .im e) → ((BW.forO env).set i (.im d))[j]? = some s → env[j]? = some s := fun j s n1 n2 e => by
    rcases set_get e with ⟨_, z⟩ | ⟨_, z⟩
    · exact absurd z (n2 _)
    · rcases (forO_get z).1 with y | y
      · exact absurd y n1
      · exact y
  refine ⟨mrg I J, ei, fun b o e => ?_, ⟨⟨r.g.i.trans ei, r.g.h, fun a o e => ?_, fun a o e => ?_⟩, by rw [List.length_set, forO_len, r.len], fun j e hj => ?_, fun j l hj => ?_, fun j e hj => ?_, fun j k l m a q1 q2 q3 q4 => ?_, fun j ks l hj => ?_, fun j k ks ls l m a q1 q2 q3 q4 => ?_, fun j o e => absurd e (forO_no (s := .im d) (fun _ z => nomatch z) j o)⟩⟩
  · rcases mrg_or e with z | ⟨_, z⟩
    · exact .inl z
    · exact .inr (w.l _ _ z)
  · rcases mrg_or e with z | ⟨_, z⟩
    · exact r.g.ih a o z
    · exact w.h a o z
  · rcases mrg_or e with z | ⟨_, z⟩
    · exact r.g.new a o z
    · exact .inr (w.z a o z)
  · rcases set_get hj with ⟨z, y⟩ | ⟨_, z⟩
    · subst z
      cases y
      refine ⟨v, h1, Rd.mono (fun a o e => ?_) h3⟩
      rcases mrg_or e with z | ⟨_, z⟩
      · exact mrg_l (nol_some z).1
      · rw [mrg_r (w.i a o z)]; exact z
    · rcases (forO_get z).1 with y | y
      · cases y
      · obtain ⟨u, k1, k2⟩ := r.im j e y
        exact ⟨u, k1, k2.mono ei⟩
  · have y := gt j (.mu l) (fun z => nomatch z) (fun _ z => nomatch z) hj
    obtain ⟨a, vs, k1, k2, k3, k4, k5⟩ := r.mu j l y
    exact ⟨a, vs, k1, k2, by rw [mrg_r k3]; exact w.mu j l a y k1, k4, k5.mono ei⟩
  · exact r.bo j e (gt j _ (fun z => nomatch z) (fun _ z => nomatch z) hj)
  · exact r.ap j k l m a (gt j _ (fun z => nomatch z) (fun _ z => nomatch z) q1) (gt k _ (fun z => nomatch z) (fun _ z => nomatch z) q2) q3 q4
  · have y := gt j (.md ks l) (fun z => nomatch z) (fun _ z => nomatch z) hj
    obtain ⟨a, kvs, k1, k2, k3, k4, k5, k6⟩ := r.md j ks l y
    exact ⟨a, kvs, k1, k2, by rw [mrg_r k3]; exact w.md j ks l a y k1, k4, k5, k6.mono ei⟩
  · exact r.apd j k ks ls l m a (gt j _ (fun z => nomatch z) (fun _ z => nomatch z) q1) (gt k _ (fun z => nomatch z) (fun _ z => nomatch z) q2) q3 q4
end
section
variable {X : Cx} {W : WX} {A H0 : Hp} {e : Expr} {f : F}
theorem ve_lendO (i : Nat) (h : VE X W A H0 e f) : VE X W A H0 e (fLendO i f) := pe_imp h fun σ H Q ⟨env, I, r, q⟩ => by
  have q0 : PostE X.K W σ I H ((f (frzO i env)).bind lfD) Q := q
  unfold frzO at q0
  cases he : env[i]? with
  | none => rw [he] at q0; exact ⟨env, I, r, lend_post r.g.ih (Ex.refl _) r.g.ih (fun _ _ z => .inl z) q0⟩
  | some s =>
    rw [he] at q0
    cases s with
    | ow d =>
      cases d with
      | d d =>
        obtain ⟨I', e', hl, r'⟩ := r.freezeO he
        exact ⟨_, I', r', lend_post r.g.ih e' r'.g.ih hl q0⟩
      | n k b => exact ⟨env, I, r, lend_post r.g.ih (Ex.refl _) r.g.ih (fun _ _ z => .inl z) q0⟩
    | _ => exact ⟨env, I, r, lend_post r.g.ih (Ex.refl _) r.g.ih (fun _ _ z => .inl z) q0⟩
end
/-! ### changed within -/
section
variable {K : PySem.W.Frag} {A H0 : Hp} {env : En} {σ : L2.St} {I H I' H' : Hp}
theorem Own.upd {J : Hp} (w : Own env σ I H0 H J) {q : Addr} {us ws : List V} (hq : J q = some (.lst us)) : Own env σ I H0 (L2.upd H q (.lst ws)) (L2.upd J q (.lst ws)) := by
  have at' : ∀ {a : Addr}, J a = none → L2.upd J q (.lst ws) a = none := fun {a} n => by
    have na : a ≠ q := fun e => by rw [e, hq] at n; cases n
    rw [upd_ne na]; exact n
  refine ⟨fun a o e => ?_, fun a o e => ?_, fun a o e => ?_, fun a o e => ?_, fun j l a e s => at' (w.mu j l a e s), fun j ks l a e s => at' (w.md j ks l a e s)⟩
  all_goals by_cases c : a = q
  · subst c; rw [upd_same] at e ⊢; exact e
  · rw [upd_ne c] at e ⊢; exact w.h a o e
  · subst c; exact w.i _ _ hq
  · rw [upd_ne c] at e; exact w.i a o e
  · subst c; exact w.z _ _ hq
  · rw [upd_ne c] at e; exact w.z a o e
  · subst c; rw [upd_same] at e; cases e; exact ⟨_, rfl⟩
  · rw [upd_ne c] at e; exact w.l a o e
theorem Rel.chgO (r : Rel K A H0 env σ I H) (hn : ∀ (j : Nat) (o : Ow), env[j]? ≠ some (Sl.ow o)) {J : Hp} (w : Own env σ I H0 H J) {q : Addr} {us ws : List V} (hq : J q = some (.lst us)) : Rel K A H0 env σ I (L2.upd H q (.lst ws)) := by
  have h0 : H0 q = none := w.z _ _ hq
  have hi : I q = none := w.i _ _ hq
  refine ⟨⟨r.g.i, ex_upd r.g.h h0, ex_upd r.g.ih hi, r.g.new⟩, r.len, r.im, fun j l hj => ?_, r.bo, r.ap, fun j ks l hj => ?_, r.apd, fun j o e => absurd e (hn j o)⟩
  · obtain ⟨a, vs, h1, h2, h3⟩ := r.mu j l hj
    have na : a ≠ q := fun e => by
      have := w.mu j l a hj h1
      rw [e, hq] at this; cases this
    exact ⟨a, vs, h1, by rw [upd_ne na]; exact h2, h3⟩
  · obtain ⟨a, vs, h1, h2, h3⟩ := r.md j ks l hj
    have na : a ≠ q := fun e => by
      have := w.md j ks l a hj h1
      rw [e, hq] at this; cases this
    exact ⟨a, vs, h1, by rw [upd_ne na]; exact h2, h3⟩
def lead : List D → Nat
  | .lst _ :: l => lead l + 1
  | _ => 0
def wid0 : List D → Nat
  | [] => 0
  | .lst m :: l => max m.length (wid0 l)
  | _ :: l => wid0 l
def skO : Ow → Option (Nat × Nat)
  | .n k b => some (k, b)
  | .d (.lst l) => some (lead l, max l.length (wid0 l))
  | _ => none
theorem lead_rd {J : Hp} : ∀ {vs : List V} {l : List D}, RdA K (mrg (nol I) J) vs l → ∀ i, i < lead l → ∃ q us, vs[i]? = some (.ref q) ∧ J q = some (.lst us) ∧ us.length ≤ wid0 l
  | _, _, .nil, i, h => absurd h (Nat.not_lt_zero _)
  | _, _, .cons (d := d) (ds := ds) h q, i, hi => by
    cases d with
    | lst m =>
      obtain ⟨a, us, rfl, h1, h2⟩ := h.lst_inv
      match i with
      | 0 =>
        refine ⟨a, us, rfl, ?_, by rw [h2.length]; exact Nat.le_max_left _ _⟩
        rcases mrg_or h1 with z | ⟨_, z⟩
        · exact absurd rfl ((nol_some z).2 us)
        · exact z
      | i + 1 =>
        obtain ⟨b, ws, k1, k2, k3⟩ := lead_rd q i (Nat.lt_of_succ_lt_succ hi)
        exact ⟨b, ws, k1, k2, Nat.le_trans k3 (Nat.le_max_right _ _)⟩
    | _ => exact absurd hi (Nat.not_lt_zero _)
theorem skO_rd {J : Hp} {v : V} {o : Ow} {k b : Nat} (h : RdW K I J v o) (e : skO o = some (k, b)) : ∃ p vs, v = .ref p ∧ J p = some (.lst vs) ∧ Lsk J k b vs := by
  cases o with
  | n k' b' =>
    cases e
    exact h
  | d d =>
    cases d with
    | lst l =>
      cases e
      have h' : Rd K (mrg (nol I) J) v (.lst l) := h
      obtain ⟨a, us, rfl, h1, h2⟩ := h'.lst_inv
      refine ⟨a, us, rfl, ?_, by rw [h2.length]; exact Nat.le_max_left _ _, fun i hi => ?_⟩
      · rcases mrg_or h1 with z | ⟨_, z⟩
        · exact absurd rfl ((nol_some z).2 us)
        · exact z
      · obtain ⟨q, ws, k1, k2, k3⟩ := lead_rd h2 i hi
        exact ⟨q, ws, k1, k2, Nat.le_trans k3 (Nat.le_max_right _ _)⟩
    | _ => cases e
/-- a list of the private part changed: what is known of slot i afterwards -/
theorem Rel.chgW (r : Rel K A H0 env σ I H) {i k b k' b' : Nat} {J : Hp} {p q : Addr} {vs us ws : List V} (w : Own env σ I H0 H J) (hs : σ[i]? = some (some (.ref p))) (hp : J p = some (.lst vs)) (hk : Lsk J k b vs) (hq : J q = some (.lst us)) (k1 : k' ≤ k) (b1 : b ≤ b') (b2 : ws.length ≤ b') (hw : ∀ j, j < k' → ∀ x, us[j]? = some x → ws[j]? = some x) : Rel K A H0 ((BW.forO env).set i (Sl.ow (Ow.n k' b'))) σ I (L2.upd H q (.lst ws)) := by
  have r1 : Rel K A H0 ((BW.forO env).set i .no) σ I H := r.forO
  have hn : ∀ (j : Nat) (o : Ow), ((BW.forO env).set i Sl.no)[j]? ≠ some (Sl.ow o) := forO_no (s := .no) fun _ z => nomatch z
  have gt : ∀ (j : Nat) (s : Sl), s ≠ .no → ((BW.forO env).set i .no)[j]? = some s → env[j]? = some s := fun j s n1 e => by
    rcases set_get e with ⟨_, z⟩ | ⟨_, z⟩
    · exact absurd z n1
    · rcases (forO_get z).1 with y | y
      · exact absurd y n1
      · exact y
  have w1 : Own ((BW.forO env).set i .no) σ I H0 H J := w.less (fun j l e => ⟨⟨l, gt j _ (fun z => nomatch z) e⟩, rfl⟩) (fun j ks l e => ⟨⟨ks, l, gt j _ (fun z => nomatch z) e⟩, rfl⟩)
  have r2 := r1.chgO hn w1 (ws := ws) hq
  have key : ∃ vs', L2.upd J q (.lst ws) p = some (.lst vs') ∧ Lsk (L2.upd J q (.lst ws)) k' b' vs' := by
    have it : ∀ j, j < k' → ∃ a ys, vs[j]? = some (.ref a) ∧ L2.upd J q (.lst ws) a = some (.lst ys) ∧ ys.length ≤ b' := fun j hj => by
      obtain ⟨a, ys, e1, e2, e3⟩ := hk.2 j (by omega)
      by_cases c : a = q
      · subst c; exact ⟨a, ws, e1, upd_same, b2⟩
      · exact ⟨a, ys, e1, by rw [upd_ne c]; exact e2, by omega⟩
    by_cases c : p = q
    · subst c
      have e : vs = us := by rw [hp] at hq; cases hq; rfl
      subst e
      exact ⟨ws, upd_same, b2, fun j hj => by
        obtain ⟨a, ys, e1, e2⟩ := it j hj
        exact ⟨a, ys, hw j hj _ e1, e2⟩⟩
    · exact ⟨vs, by rw [upd_ne c]; exact hp, by have := hk.1; omega, it⟩
  obtain ⟨vs', e1, e2⟩ := key
  have r3 := r2.put_ow (i := i) (v := .ref p) (d := .n k' b') (w1.upd hq) ⟨p, vs', rfl, e1, e2⟩ (fun _ => hs)
  rwa [List.set_set] at r3
end
def okK (k : Option Nat) (n : Nat) : Bool := match k with
  | some j => decide (j < n)
  | none => true
/-- x.append(y), x[k].append(y) -/
def gAppW (i : Nat) (k : Option Nat) (f : F) : G := fun env => match env[i]? with
  | some (.ow o) => (match skO o with
    | some (n, b) => if okK k n = true ∧ b < sizeLine then SR.of env (f env) fun _ => .nx ((forO env).set i (.ow (.n n (b + 1)))) else .no
    | none => .no)
  | _ => .no
/-- x.reverse(), x[k].reverse(), x.clear(), x[k].clear() -/
def gClrW (i : Nat) (k : Option Nat) : G := fun env => match env[i]? with
  | some (.ow o) => (match skO o with
    | some (n, b) => if okK k n = true then .nx ((forO env).set i (.ow (.n 0 b))) else .no
    | none => .no)
  | _ => .no
/-- the list meant: x itself or x[k] -/
def Tgt (J : Hp) (p : Addr) (vs : List V) (q : Addr) : Option Nat → Prop
  | none => q = p
  | some j => vs[j]? = some (.ref q)
theorem tgt_ex {J : Hp} {p : Addr} {vs : List V} {n b : Nat} {k : Option Nat} (hp : J p = some (.lst vs)) (h : Lsk J n b vs) (hk : okK k n = true) : ∃ q us, Tgt J p vs q k ∧ J q = some (.lst us) ∧ us.length ≤ b := by
  cases k with
  | none => exact ⟨p, vs, rfl, hp, h.1⟩
  | some j =>
    obtain ⟨q, us, h1, h2, h3⟩ := h.2 j (of_decide_eq_true hk)
    exact ⟨q, us, h1, h2, h3⟩
section
variable {K : PySem.W.Frag} {W : WX} {A H0 : Hp} {fr : Bool} {Z : Ends} {σ : L2.St} {H : Hp} {i : Nat} {k : Option Nat} {f : F}
theorem appW_run (h : rdS K W A H0 fr (gAppW i k f) Z σ H) : ∃ (p q : Addr) (vs us : List V), σ[i]? = some (some (.ref p)) ∧ H p = some (.lst vs) ∧ Tgt H p vs q k ∧ H q = some (.lst us) ∧ rdE K W A H0 f σ H (fun v H1 => rAppend (.ref q) [v] H1 fun _ H2 => Z.nx σ H2) := by
  obtain ⟨env, I, r, q⟩ := h
  unfold gAppW at q
  cases he : env[i]? with
  | none => rw [he] at q; exact q.elim
  | some s =>
    rw [he] at q
    cases s with
    | ow o =>
      have q0 : PostS K W A H0 fr I Z (match skO o with
        | some (n, b) => if okK k n = true ∧ b < sizeLine then SR.of env (f env) fun _ => .nx ((forO env).set i (.ow (.n n (b + 1)))) else .no
        | none => .no) := q
      cases hs : skO o with
      | none => rw [hs] at q0; exact q0.elim
      | some nb =>
        obtain ⟨n, b⟩ := nb
        rw [hs] at q0
        have q1 : PostS K W A H0 fr I Z (if okK k n = true ∧ b < sizeLine then SR.of env (f env) fun _ => .nx ((forO env).set i (.ow (.n n (b + 1)))) else .no) := q0
        by_cases hc : okK k n = true ∧ b < sizeLine
        · rw [if_pos hc] at q1
          obtain ⟨v, J, h1, w, h3⟩ := r.ow i o he
          obtain ⟨p, vs, rfl, hp, hk⟩ := skO_rd h3 hs
          obtain ⟨t, us, t1, t2, t3⟩ := tgt_ex hp hk hc.1
          refine ⟨p, t, vs, us, h1, w.h _ _ hp, (by cases k <;> exact t1), w.h _ _ t2, env, I, r, of_run r q1 fun d x I1 H1 e1 r1 g1 k1 q2 => ?_⟩
          have w1 := w.grow g1
          exact ⟨t, us, x, rfl, rfl, w1.h _ _ t2, by have := hc.2; omega, q2 σ I1 _ (r1.chgW (k' := n) (b' := b + 1) (ws := us ++ [x]) w1 h1 hp hk t2 (Nat.le_refl _) (Nat.le_succ _) (by rw [List.length_append]; show us.length + 1 ≤ b + 1; omega) (fun j hj y e => by
            rw [List.getElem?_append_left (List.getElem?_eq_some_iff.mp e).1]; exact e)) (Ex.refl _)⟩
        · rw [if_neg hc] at q1; exact q1.elim
    | _ => exact q.elim
theorem clrW_run (h : rdS K W A H0 fr (gClrW i k) Z σ H) : ∃ (p q : Addr) (vs us : List V), σ[i]? = some (some (.ref p)) ∧ H p = some (.lst vs) ∧ Tgt H p vs q k ∧ H q = some (.lst us) ∧ ∀ ws : List V, ws.length ≤ us.length → Z.nx σ (upd H q (.lst ws)) := by
  obtain ⟨env, I, r, q⟩ := h
  unfold gClrW at q
  cases he : env[i]? with
  | none => rw [he] at q; exact q.elim
  | some s =>
    rw [he] at q
    cases s with
    | ow o =>
      have q0 : PostS K W A H0 fr I Z (match skO o with
        | some (n, b) => if okK k n = true then .nx ((forO env).set i (.ow (.n 0 b))) else .no
        | none => .no) := q
      cases hs : skO o with
      | none => rw [hs] at q0; exact q0.elim
      | some nb =>
        obtain ⟨n, b⟩ := nb
        rw [hs] at q0
        have q1 : PostS K W A H0 fr I Z (if okK k n = true then .nx ((forO env).set i (.ow (.n 0 b))) else .no) := q0
        by_cases hc : okK k n = true
        · rw [if_pos hc] at q1
          obtain ⟨v, J, h1, w, h3⟩ := r.ow i o he
          obtain ⟨p, vs, rfl, hp, hk⟩ := skO_rd h3 hs
          obtain ⟨t, us, t1, t2, t3⟩ := tgt_ex hp hk hc
          exact ⟨p, t, vs, us, h1, w.h _ _ hp, (by cases k <;> exact t1), w.h _ _ t2, fun ws hw => q1 σ I _ (r.chgW (k' := 0) (b' := b) (ws := ws) w h1 hp hk t2 (Nat.zero_le _) (Nat.le_refl _) (by omega) (fun j hj => absurd hj (Nat.not_lt_zero _))) (Ex.refl _)⟩
        · rw [if_neg hc] at q1; exact q1.elim
    | _ => exact q.elim
end
end BW
/-! BCore53: rows that change a name that owns all within. -/
namespace BW
open PySem PySem.Spec PyProof.Rows L2
open Evl (Ex Ex.refl Ex.trans Ex.new ex_rd ex_l ex_t)
section
variable {X : Cx} {W : WX} {A H0 : Hp} {fr : Bool} {e : Expr} {f : F} {pos : Pos}
theorem vs_appW0 (i : Nat) {x : Str} {p apos : Pos} (he : VE X W A H0 e f)
    (hN : X.N[i]? = some x := by rfl) (hv : Vis X.env.scope x := by first | exact Or.inl rfl | exact Or.inr (Or.inl rfl) | exact Or.inr (Or.inr rfl)) (hd : (x == ("__debug__" : Str)) = false := by decide) (hcd : (x == ("__classdict__" : Str)) = false := by decide)
    (hs1 : starEach (e :: []) X.env = (false, eval e X.env) :: starEach [] X.env := by rfl)
    (hbase : attributeBase (.Name x p) "append" X.env (eval (.Name x p) X.env) = eval (.Name x p) X.env := by rfl)
    {cpos : Pos} (hfew : ((backTo cpos (starEach (e :: []) X.env)).all (fun x => !x.1) && (backToKw cpos (keywordEach [] X.env)).all (fun x => x.1.isSome) && decide ((e :: []).length + ([] : List Keyword).length + (if ([] : List Keyword).isEmpty then 0 else 1) < 30)) = true := by rfl)
    (hline : (apos.endLine == cpos.line) = true := by rfl) (hplain : (backTo cpos (starEach [] X.env)).any (·.1) = false := by rfl)
    (hs : swapsWith (.Call (.Attribute (.Name x p) "append" apos) [e] [] cpos) none pos.line X.env = pure false := by rfl) :
    VS X W A H0 fr (.Expr (.Call (.Attribute (.Name x p) "append" apos) [e] [] cpos) pos) (gAppW i none f) :=
  ps_imp (ps_expr (pe_bm PySem.F.plainAttrs_list PySem.F.slot_list_append PySem.F.type_list_append mt_append (pe_var hN hv hd hcd) (pa_cons he pa_nil hs1) hbase hfew hline hs1 hplain) hs) fun Z σ H h => by
    obtain ⟨ad, q, vs, us, h1, h2, t, h3, k⟩ := appW_run h
    have t' : q = ad := t
    subst t'
    exact ⟨.ref q, h1, ty_lst h3, k⟩
theorem vs_appW1 (i j : Nat) {x : Str} {n : Int} {ck : Nat} {p q1 q2 apos : Pos} (he : VE X W A H0 e f) (hj : n = (j : Int) := by rfl)
    (hN : X.N[i]? = some x := by rfl) (hv : Vis X.env.scope x := by first | exact Or.inl rfl | exact Or.inr (Or.inl rfl) | exact Or.inr (Or.inr rfl)) (hd : (x == ("__debug__" : Str)) = false := by decide) (hcd : (x == ("__classdict__" : Str)) = false := by decide)
    (hs1 : starEach (e :: []) X.env = (false, eval e X.env) :: starEach [] X.env := by rfl)
    (hbase : attributeBase (.Subscript (.Name x p) (.Constant (.int n) ck q1) q2) "append" X.env (eval (.Subscript (.Name x p) (.Constant (.int n) ck q1) q2) X.env) = eval (.Subscript (.Name x p) (.Constant (.int n) ck q1) q2) X.env := by rfl)
    {cpos : Pos} (hfew : ((backTo cpos (starEach (e :: []) X.env)).all (fun x => !x.1) && (backToKw cpos (keywordEach [] X.env)).all (fun x => x.1.isSome) && decide ((e :: []).length + ([] : List Keyword).length + (if ([] : List Keyword).isEmpty then 0 else 1) < 30)) = true := by rfl)
    (hline : (apos.endLine == cpos.line) = true := by rfl) (hplain : (backTo cpos (starEach [] X.env)).any (·.1) = false := by rfl)
    (hs : swapsWith (.Call (.Attribute (.Subscript (.Name x p) (.Constant (.int n) ck q1) q2) "append" apos) [e] [] cpos) none pos.line X.env = pure false := by rfl) :
    VS X W A H0 fr (.Expr (.Call (.Attribute (.Subscript (.Name x p) (.Constant (.int n) ck q1) q2) "append" apos) [e] [] cpos) pos) (gAppW i (some j) f) :=
  ps_imp (ps_expr (pe_bm PySem.F.plainAttrs_list PySem.F.slot_list_append PySem.F.type_list_append mt_append (pe_ix ix_list (pe_var hN hv hd hcd) pe_int (fun _ _ => rfl)) (pa_cons he pa_nil hs1) hbase hfew hline hs1 hplain) hs) fun Z σ H h => by
    obtain ⟨ad, q, vs, us, h1, h2, t, h3, k⟩ := appW_run h
    have t' : vs[j]? = some (.ref q) := t
    subst hj
    exact ⟨.ref ad, h1, ad, vs, (j : Int), .ref q, rfl, rfl, .inl (.inl h2), atI_nat t', ty_lst h3, k⟩
theorem vs_revW0 (i : Nat) {x : Str} {p apos cpos : Pos}
    (hN : X.N[i]? = some x := by rfl) (hv : Vis X.env.scope x := by first | exact Or.inl rfl | exact Or.inr (Or.inl rfl) | exact Or.inr (Or.inr rfl)) (hd : (x == ("__debug__" : Str)) = false := by decide) (hcd : (x == ("__classdict__" : Str)) = false := by decide)
    (hbase : attributeBase (.Name x p) "reverse" X.env (eval (.Name x p) X.env) = eval (.Name x p) X.env := by rfl) (hline : (apos.endLine == cpos.line) = true := by rfl)
    (hs : swapsWith (.Call (.Attribute (.Name x p) "reverse" apos) [] [] cpos) none pos.line X.env = pure false := by rfl) :
    VS X W A H0 fr (.Expr (.Call (.Attribute (.Name x p) "reverse" apos) [] [] cpos) pos) (gClrW i none) :=
  ps_imp (ps_expr (pe_bm0 PySem.F.plainAttrs_list PySem.F.slot_list_reverse PySem.F.type_list_reverse mt_reverse (pe_var hN hv hd hcd) hbase hline) hs) fun Z σ H h => by
    obtain ⟨ad, q, vs, us, h1, h2, t, h3, k⟩ := clrW_run h
    have t' : q = ad := t
    subst t'
    exact ⟨.ref q, h1, ty_lst h3, q, us, rfl, rfl, h3, k _ (by rw [List.length_reverse]; exact Nat.le_refl _)⟩
theorem vs_revW1 (i j : Nat) {x : Str} {n : Int} {ck : Nat} {p q1 q2 apos cpos : Pos} (hj : n = (j : Int) := by rfl)
    (hN : X.N[i]? = some x := by rfl) (hv : Vis X.env.scope x := by first | exact Or.inl rfl | exact Or.inr (Or.inl rfl) | exact Or.inr (Or.inr rfl)) (hd : (x == ("__debug__" : Str)) = false := by decide) (hcd : (x == ("__classdict__" : Str)) = false := by decide)
    (hbase : attributeBase (.Subscript (.Name x p) (.Constant (.int n) ck q1) q2) "reverse" X.env (eval (.Subscript (.Name x p) (.Constant (.int n) ck q1) q2) X.env) = eval (.Subscript (.Name x p) (.Constant (.int n) ck q1) q2) X.env := by rfl) (hline : (apos.endLine == cpos.line) = true := by rfl)
    (hs : swapsWith (.Call (.Attribute (.Subscript (.Name x p) (.Constant (.int n) ck q1) q2) "reverse" apos) [] [] cpos) none pos.line X.env = pure false := by rfl) :
    VS X W A H0 fr (.Expr (.Call (.Attribute (.Subscript (.Name x p) (.Constant (.int n) ck q1) q2) "reverse" apos) [] [] cpos) pos) (gClrW i (some j)) :=
  ps_imp (ps_expr (pe_bm0 PySem.F.plainAttrs_list PySem.F.slot_list_reverse PySem.F.type_list_reverse mt_reverse (pe_ix ix_list (pe_var hN hv hd hcd) pe_int (fun _ _ => rfl)) hbase hline) hs) fun Z σ H h => by
    obtain ⟨ad, q, vs, us, h1, h2, t, h3, k⟩ := clrW_run h
    have t' : vs[j]? = some (.ref q) := t
    subst hj
    exact ⟨.ref ad, h1, ad, vs, (j : Int), .ref q, rfl, rfl, .inl (.inl h2), atI_nat t', ty_lst h3, q, us, rfl, rfl, h3, k _ (by rw [List.length_reverse]; exact Nat.le_refl _)⟩
theorem vs_clrW0 (i : Nat) {x : Str} {p apos cpos : Pos}
    (hN : X.N[i]? = some x := by rfl) (hv : Vis X.env.scope x := by first | exact Or.inl rfl | exact Or.inr (Or.inl rfl) | exact Or.inr (Or.inr rfl)) (hd : (x == ("__debug__" : Str)) = false := by decide) (hcd : (x == ("__classdict__" : Str)) = false := by decide)
    (hbase : attributeBase (.Name x p) "clear" X.env (eval (.Name x p) X.env) = eval (.Name x p) X.env := by rfl) (hline : (apos.endLine == cpos.line) = true := by rfl)
    (hs : swapsWith (.Call (.Attribute (.Name x p) "clear" apos) [] [] cpos) none pos.line X.env = pure false := by rfl) :
    VS X W A H0 fr (.Expr (.Call (.Attribute (.Name x p) "clear" apos) [] [] cpos) pos) (gClrW i none) :=
  ps_imp (ps_expr (pe_bm0 PySem.F.plainAttrs_list PySem.F.slot_list_clear PySem.F.type_list_clear mt_clear (pe_var hN hv hd hcd) hbase hline) hs) fun Z σ H h => by
    obtain ⟨ad, q, vs, us, h1, h2, t, h3, k⟩ := clrW_run h
    have t' : q = ad := t
    subst t'
    exact ⟨.ref q, h1, ty_lst h3, q, us, rfl, rfl, h3, k _ (Nat.zero_le _)⟩
theorem vs_clrW1 (i j : Nat) {x : Str} {n : Int} {ck : Nat} {p q1 q2 apos cpos : Pos} (hj : n = (j : Int) := by rfl)
    (hN : X.N[i]? = some x := by rfl) (hv : Vis X.env.scope x := by first | exact Or.inl rfl | exact Or.inr (Or.inl rfl) | exact Or.inr (Or.inr rfl)) (hd : (x == ("__debug__" : Str)) = false := by decide) (hcd : (x == ("__classdict__" : Str)) = false := by decide)
    (hbase : attributeBase (.Subscript (.Name x p) (.Constant (.int n) ck q1) q2) "clear" X.env (eval (.Subscript (.Name x p) (.Constant (.int n) ck q1) q2) X.env) = eval (.Subscript (.Name x p) (.Constant (.int n) ck q1) q2) X.env := by rfl) (hline : (apos.endLine == cpos.line) = true := by rfl)
    (hs : swapsWith (.Call (.Attribute (.Subscript (.Name x p) (.Constant (.int n) ck q1) q2) "clear" apos) [] [] cpos) none pos.line X.env = pure false := by rfl) :
    VS X W A H0 fr (.Expr (.Call (.Attribute (.Subscript (.Name x p) (.Constant (.int n) ck q1) q2) "clear" apos) [] [] cpos) pos) (gClrW i (some j)) :=
  ps_imp (ps_expr (pe_bm0 PySem.F.plainAttrs_list PySem.F.slot_list_clear PySem.F.type_list_clear mt_clear (pe_ix ix_list (pe_var hN hv hd hcd) pe_int (fun _ _ => rfl)) hbase hline) hs) fun Z σ H h => by
    obtain ⟨ad, q, vs, us, h1, h2, t, h3, k⟩ := clrW_run h
    have t' : vs[j]? = some (.ref q) := t
    subst hj
    exact ⟨.ref ad, h1, ad, vs, (j : Int), .ref q, rfl, rfl, .inl (.inl h2), atI_nat t', ty_lst h3, q, us, rfl, rfl, h3, k _ (Nat.zero_le _)⟩
end
section
variable {P : Program} {w : World} {K : PySem.W.Frag} {mg : Str → Option Value} {base : Heap} {y : Str} {k : Nat} {fl : List Bool} {m : List D → R D}
theorem CalN.cal (C : CalN P w K mg base y k fl m) : Cal P w K mg base y k fl fun ds => (m ds).bind lsD := by
  obtain ⟨f, fd, ps, F, h1, h2, h3⟩ := C.ex
  exact ⟨f, fd, ps, BW.FnOk.forget F, h1, h2, h3⟩
end
end BW
/-! BCore54: a name that owns all within, looked through by a loop that only tests. -/
namespace BW
open PySem PySem.Spec PyProof.Rows L2
open Evl (Ex Ex.refl Ex.trans Ex.new ex_rd ex_l ex_t)
theorem Rel.freezeJ {K : PySem.W.Frag} {A H0 : Hp} {env : En} {σ : L2.St} {I H J : Hp} (r : Rel K A H0 env σ I H) (w : Own env σ I H0 H J) : Rel K A H0 (BW.forO env) σ (mrg I J) H := by
  have ei : Ex I (mrg I J) := fun a o e => mrg_l e
  have gt : ∀ (j : Nat) (s : Sl), s ≠ .no → (BW.forO env)[j]? = some s → env[j]? = some s := fun j s n1 e => by
    rcases (forO_get e).1 with y | y
    · exact absurd y n1
    · exact y
  refine ⟨⟨r.g.i.trans ei, r.g.h, fun a o e => ?_, fun a o e => ?_⟩, by rw [forO_len, r.len], fun j e hj => ?_, fun j l hj => ?_, fun j e hj => r.bo j e (gt j (.bo e) (fun z => nomatch z) hj), fun j k l m a q1 q2 q3 q4 => r.ap j k l m a (gt j (.mu l) (fun z => nomatch z) q1) (gt k (.mu m) (fun z => nomatch z) q2) q3 q4, fun j ks l hj => ?_, fun j k ks ls l m a q1 q2 q3 q4 => r.apd j k ks ls l m a (gt j (.md ks l) (fun z => nomatch z) q1) (gt k (.md ls m) (fun z => nomatch z) q2) q3 q4, fun j o e => absurd rfl ((forO_get e).2 o)⟩
  · rcases mrg_or e with z | ⟨_, z⟩
    · exact r.g.ih a o z
    · exact w.h a o z
  · rcases mrg_or e with z | ⟨_, z⟩
    · exact r.g.new a o z
    · exact .inr (w.z a o z)
  · obtain ⟨u, k1, k2⟩ := r.im j e (gt j (.im e) (fun z => nomatch z) hj)
    exact ⟨u, k1, k2.mono ei⟩
  · have y := gt j (.mu l) (fun z => nomatch z) hj
    obtain ⟨a, vs, k1, k2, k3, k4, k5⟩ := r.mu j l y
    exact ⟨a, vs, k1, k2, by rw [mrg_r k3]; exact w.mu j l a y k1, k4, k5.mono ei⟩
  · have y := gt j (.md ks l) (fun z => nomatch z) hj
    obtain ⟨a, kvs, k1, k2, k3, k4, k5, k6⟩ := r.md j ks l y
    exact ⟨a, kvs, k1, k2, by rw [mrg_r k3]; exact w.md j ks l a y k1, k4, k5, k6.mono ei⟩
/-- for y in x: if c: return .. -/
def chkF (fc : F) (gr : G) (j : Nat) (e0 e1 : En) : List D → SR
  | [] => .nx e1
  | d :: ds => match fc (e0.set j (.im d)) with
    | .ok (.bl b) => cond b (match gr (e0.set j (.im d)) with | .rt r => SR.rt r | _ => SR.no) (chkF fc gr j e0 e1 ds)
    | _ => SR.no
def gChk (i j : Nat) (fc : F) (gr : G) : G := fun env => match env[i]? with
  | some (.ow (.d (.lst ds))) => chkF fc gr j (forO env) (env.set j .no) ds
  | _ => SR.no
theorem set_no {K : PySem.W.Frag} {A H0 : Hp} {env : En} {σ : L2.St} {I H : Hp} {j : Nat} {x : Option V} (r : Rel K A H0 (env.set j .no) σ I H) : Rel K A H0 (env.set j .no) (σ.set j x) I H := r.less rfl (by rw [List.length_set]) fun k s e => by
  rcases set_get e with ⟨_, z⟩ | ⟨hij, z⟩
  · exact .inl z
  · exact .inr ⟨e, List.getElem?_set_ne hij⟩
theorem own_no {env : En} {σ : L2.St} {I H0 H J : Hp} {j : Nat} {x : Option V} (w : Own (env.set j .no) σ I H0 H J) : Own (env.set j .no) (σ.set j x) I H0 H J := w.less (fun k l e => by
  rcases set_get e with ⟨_, z⟩ | ⟨hij, z⟩
  · cases z
  · exact ⟨⟨l, e⟩, List.getElem?_set_ne hij⟩) (fun k ks l e => by
  rcases set_get e with ⟨_, z⟩ | ⟨hij, z⟩
  · cases z
  · exact ⟨⟨ks, l, e⟩, List.getElem?_set_ne hij⟩)
section
variable {X : Cx} {W : WX} {A H0 : Hp} {fr : Bool} {c : Expr} {fc : F} {gr : G} {pos : Pos}
theorem vs_chk (i j : Nat) {x y : Str} {px py pi : Pos} {xs : List Stmt} (hp : PassesOwn (model X.prog X.w) X.A X.env X.xe) (hcm : X.calm = true) (hNd : X.N.Nodup) (hc : VT X W A H0 c fc) (hx : VSs X W A H0 fr xs gr)
    (hN : X.N[i]? = some x := by rfl) (hv : Vis X.env.scope x := by first | exact Or.inl rfl | exact Or.inr (Or.inl rfl) | exact Or.inr (Or.inr rfl)) (hd : (x == ("__debug__" : Str)) = false := by decide) (hcd : (x == ("__classdict__" : Str)) = false := by decide)
    (hj : X.N[j]? = some y := by rfl) (hy : Loc X.env.scope y := by first | exact .inl rfl | exact .inr rfl) (hf : X.fn y = true ∨ X.env.scope.names.lookup y = some .local := by first | exact .inl rfl | exact .inr rfl | assumption)
    (hs : ∀ z, foldedSetIterable (.Name x px) X.env z = pure z := by intro _; rfl) :
    VS X W A H0 fr (.For (.Name y py) (.Name x px) [.If c xs [] pi] [] pos) (gChk i j fc gr) :=
  ps_imp (ps_for hp hcm (pi_seq (pe_var hN hv hd hcd)) (pg_name hNd hj hy hf) (pss_one (ps_if hc hx pss_nil)) hs) fun Z σ H ⟨env, I, r, q⟩ => by
    unfold gChk at q
    cases he : env[i]? with
    | none => rw [he] at q; exact q.elim
    | some s =>
      rw [he] at q
      cases s with
      | ow o =>
        cases o with
        | n k b => exact q.elim
        | d d0 =>
          rcases D.lst_or d0 with ⟨ds, rfl⟩ | hnl
          · have q0 : PostS X.K W A H0 fr I Z (chkF fc gr j (forO env) (env.set j .no) ds) := q
            obtain ⟨v, J, h1, w, h3⟩ := r.ow i _ he
            have h3' : Rd X.K (mrg (nol I) J) v (.lst ds) := h3
            obtain ⟨p, vs, rfl, hp0, hv0⟩ := h3'.lst_inv
            have sv : Serves X.K (Itl X.K p) ds (mrg (nol I) J) := serves_list (.inl (.inl hp0)) hv0
            have hH : H p = some (.lst vs) := mrg_ex r.g.ih w.h _ _ hp0
            refine ⟨.ref p, h1, p, rfl, .inl ⟨vs, .inl (.inl hH), ?_⟩⟩
            refine for_it sv (fun k σ2 H2 => ∃ I2, Rel X.K A H0 (env.set j .no) σ2 I2 H2 ∧ Ex I I2 ∧ Own (env.set j .no) σ2 I2 H0 H2 J ∧ PostS X.K W A H0 fr I2 Z (chkF fc gr j (forO env) (env.set j .no) (ds.drop k))) ?_ ?_ ?_ ?_
            · refine ⟨I, r.less (by rw [List.length_set]) rfl (fun k s e => ?_), Ex.refl _, w.less (fun k l e => ?_) (fun k ks l e => ?_), q0⟩
              · rcases set_get e with ⟨_, z⟩ | ⟨_, z⟩
                · exact .inl z
                · exact .inr ⟨z, rfl⟩
              · rcases set_get e with ⟨_, z⟩ | ⟨_, z⟩
                · cases z
                · exact ⟨⟨l, z⟩, rfl⟩
              · rcases set_get e with ⟨_, z⟩ | ⟨_, z⟩
                · cases z
                · exact ⟨⟨ks, l, z⟩, rfl⟩
            · exact fun k σ2 H2 _ ⟨I2, r2, e2, w2, _⟩ => mrg_ex (e2.trans r2.g.ih) w2.h
            · intro k x2 σ2 H2 H3 hk ⟨I2, r2, e2, w2, q2⟩ yd
              have ej : Ex I2 (mrg I2 J) := fun a o e => mrg_l e
              have eM : Ex (mrg (nol I) J) (mrg I2 J) := fun a o z => by
                rcases mrg_or z with z | ⟨_, z⟩
                · exact mrg_l (e2 a o (nol_some z).1)
                · rw [mrg_r (w2.i a o z)]; exact z
              have iH : Ex (mrg I2 J) H2 := fun a o z => by
                rcases mrg_or z with z | ⟨_, z⟩
                · exact r2.g.ih a o z
                · exact w2.h a o z
              obtain ⟨d, I3, d1, g3, k3, _⟩ := yd_grow eM iH yd
              have hdp : ds.drop k = d :: ds.drop (k + 1) := List.drop_eq_getElem?_toList_append .. |>.trans (by rw [d1]; rfl)
              rw [hdp] at q2
              have q3 : PostS X.K W A H0 fr I2 Z (match fc ((forO env).set j (.im d)) with
                | .ok (.bl b) => cond b (match gr ((forO env).set j (.im d)) with | .rt r => SR.rt r | _ => SR.no) (chkF fc gr j (forO env) (env.set j .no) (ds.drop (k + 1)))
                | _ => SR.no) := q2
              have rf : Rel X.K A H0 ((forO env).set j .no) σ2 (mrg I2 J) H2 := by
                have z := r2.freezeJ w2
                have e : forO (env.set j .no) = (forO env).set j .no := by unfold forO; rw [List.map_set]; rfl
                rwa [e] at z
              have rg : Rel X.K A H0 ((forO env).set j (.im d)) (σ2.set j (some x2)) I3 H3 := by
                have z := (rf.grow g3).set_im (i := j) k3
                rwa [List.set_set] at z
              refine ⟨_, _, rg, ?_⟩
              cases hfc : fc ((forO env).set j (.im d)) with
              | er a b => rw [hfc] at q3; exact q3.elim
              | no => rw [hfc] at q3; exact q3.elim
              | ok e =>
                rw [hfc] at q3
                cases e with
                | bl b =>
                  intro I4 H4 g4
                  cases b with
                  | true =>
                    have q4 : PostS X.K W A H0 fr I2 Z (match gr ((forO env).set j (.im d)) with | .rt r => SR.rt r | _ => SR.no) := q3
                    refine iteT ⟨_, I4, rg.grow g4, ?_⟩
                    cases hg : gr ((forO env).set j (.im d)) with
                    | rt dr => rw [hg] at q4; exact q4
                    | _ => rw [hg] at q4; exact q4.elim
                  | false =>
                    have q4 : PostS X.K W A H0 fr I2 Z (chkF fc gr j (forO env) (env.set j .no) (ds.drop (k + 1))) := q3
                    have gb : Grow I2 H2 (back I2 (mrg I2 J) I4) H4 := back_growJ ej r2.g.ih iH (g3.trans g4)
                    exact iteF ⟨_, set_no (r2.grow gb), e2.trans gb.i, own_no (w2.grow gb), q4.mono gb.i⟩
                | _ => exact q3.elim
            · rintro σ2 H2 ⟨I2, r2, e2, w2, q2⟩
              rw [List.drop_length] at q2
              exact q2 σ2 I2 H2 r2 (Ex.refl _)
          · cases d0 <;> first | exact absurd rfl (hnl _) | exact q.elim
      | _ => exact q.elim
end
end BW
/-! BCore55: an own pair of a scalar and a new list. -/
namespace BW
open PySem PySem.Spec PyProof.Rows L2
open Evl (Ex Ex.refl Ex.trans Ex.new ex_rd ex_l ex_t)
theorem RdA.nol {K : PySem.W.Frag} {I : Hp} {v : List V} {d : List D} (h : RdA K I v d) (e : lfA d = true) : RdA K (BW.nol I) v d := by
  have z := RdA.back (I := BW.nol I) (J := I) (J' := I) nol_ex (Ex.refl _) nol_or h e
  rwa [back_nol] at z
def wqK (i : Nat) (env : En) (d : D) : SR := match d with
  | .tup [x, .lst l] => if lfA l = true ∧ x.sc.isSome = true then .nx (env.set i (.ow (.d (.tup [x, .lst l])))) else .no
  | _ => .no
theorem wqK_no {i : Nat} {env : En} {d : D} (h : ¬ ∃ x l, d = .tup [x, .lst l]) : wqK i env d = .no := by
  unfold wqK
  split
  · exact absurd ⟨_, _, rfl⟩ h
  · rfl
def gSetWq (i : Nat) (f : F) : G := fun env => .of env (f env) (wqK i env)
section
variable {X : Cx} {W : WX} {A H0 : Hp} {fr : Bool} {e : Expr} {f : F} {pos : Pos}
theorem setWq_run {i : Nat} {Z : Ends} {σ : L2.St} {H : Hp} (h : rdS X.K W A H0 fr (gSetWq i f) Z σ H) : rdQ X.K W A H0 f σ H (fun x H1 => gName i x σ H1 Z.nx) := by
  obtain ⟨env, I, r, q⟩ := h
  refine ⟨env, I, r, ?_⟩
  unfold gSetWq at q
  cases hf : f env with
  | er c p => rw [hf] at q; exact fun cls od I' H' g kk => q σ I' H' cls od (r.grow g) g.i kk
  | no => rw [hf] at q; exact q.elim
  | ok d =>
    rw [hf] at q
    by_cases hd : ∃ x l, d = .tup [x, .lst l]
    · obtain ⟨x, l, rfl⟩ := hd
      have q0 : PostS X.K W A H0 fr I Z (if lfA l = true ∧ x.sc.isSome = true then .nx (env.set i (.ow (.d (.tup [x, .lst l])))) else .no) := q
      by_cases hl' : lfA l = true ∧ x.sc.isSome = true
      · rw [if_pos hl'] at q0
        have hl := hl'.1
        cases hs : x.sc with
        | none => have z := hl'.2; rw [hs] at z; cases z
        | some w =>
          refine PostQ.mk hs fun t ob p vs I' H' g ho h0 hi h1 h2 h3 h4 h5 => ?_
          have htp : p ≠ t := fun z => by rw [z, h1] at h4; cases h4
          have e1 : Ex I' (upd I' t (.frz ob (.tup [w, .ref p]))) := Ex.new hi
          have g' : Grow I H (upd I' t (.frz ob (.tup [w, .ref p]))) H' := ⟨g.i.trans e1, g.h, fun a o z => by
            by_cases c : a = t
            · subst c; rw [upd_same] at z; cases z; exact h1
            · rw [upd_ne c] at z; exact g.ih a o z, fun a o z => by
            by_cases c : a = t
            · subst c; exact .inr h0
            · rw [upd_ne c] at z; exact g.new a o z⟩
          have jp : ∀ a o, (upd (fun _ => none) p (HO.lst vs) : Hp) a = some o → a = p ∧ o = .lst vs := fun a o z => by
            by_cases c : a = p
            · subst c; rw [upd_same] at z; cases z; exact ⟨rfl, rfl⟩
            · rw [upd_ne c] at z; cases z
          have ip : upd I' t (.frz ob (.tup [w, .ref p])) p = none := by rw [upd_ne htp]; exact h3
          have k1 : RdA X.K (mrg (nol (upd I' t (.frz ob (.tup [w, .ref p])))) (upd (fun _ => none) p (HO.lst vs))) vs l := ((h5.mono e1).nol hl).mono fun a o z => mrg_l z
          have k2 : (mrg (nol (upd I' t (.frz ob (.tup [w, .ref p])))) (upd (fun _ => none) p (HO.lst vs))) p = some (.lst vs) := by
            rw [mrg_r (nol_none ip)]; exact upd_same
          have k3 : (mrg (nol (upd I' t (.frz ob (.tup [w, .ref p])))) (upd (fun _ => none) p (HO.lst vs))) t = some (.frz ob (.tup [w, .ref p])) := mrg_l (nol_mk upd_same fun _ z => nomatch z)
          refine q0 _ _ H' (r.set_ow (d := .d (.tup [x, .lst l])) g' (J := upd (fun _ => none) p (HO.lst vs)) (fun a o z => ?_) (fun a o z => ?_) (show Rd X.K _ _ _ from .tup ⟨ob, ho, k3⟩ (.cons (Rd.of_sc hs) (.cons (.lst k2 k1) .nil)))) g'.i
          · obtain ⟨rfl, rfl⟩ := jp a o z; exact h4
          · obtain ⟨rfl, rfl⟩ := jp a o z; exact ⟨ip, h2, _, rfl⟩
      · rw [if_neg hl'] at q0; exact q0.elim
    · have q0 : PostS X.K W A H0 fr I Z (wqK i env d) := q
      rw [wqK_no hd] at q0
      exact q0.elim
theorem vs_setWq (i : Nat) {x : Str} {pos' : Pos} (hN : X.N.Nodup) (he : VQ X W A H0 e f) (hi : X.N[i]? = some x := by rfl) (hx : Loc X.env.scope x := by first | exact .inl rfl | exact .inr rfl) (hs : swapsWith e (some (.Name x pos')) pos.line X.env = pure false := by rfl) (hf : X.fn x = true ∨ X.env.scope.names.lookup x = some .local := by first | exact .inl rfl | exact .inr rfl | assumption) :
    VS X W A H0 fr (.Assign [.Name x pos'] e pos) (gSetWq i f) := ps_imp (ps_set hN hi hx he hs hf) fun Z σ H h => setWq_run h
end
end BW
/-! BCore56: an own pair lent to a new list; a list that is its item changed. -/
namespace BW
open PySem PySem.Spec PyProof.Rows L2
open Evl (Ex Ex.refl Ex.trans Ex.new ex_rd ex_l ex_t)
def fLendFO (i : Nat) (f : F) : F := fun env => (f (frzO i env)).bind lfL
/-- x[j].append(y), x an own tuple; the name is forgotten -/
def gAppWt (i j : Nat) (f : F) : G := fun env => match env[i]? with
  | some (.ow (.d (.tup ds))) => (match ds[j]? with
    | some (.lst l) => if l.length < sizeLine then SR.of env (f env) fun _ => .nx ((forO env).set i .no) else .no
    | _ => .no)
  | _ => .no
section
variable {X : Cx} {W : WX} {A H0 : Hp} {e : Expr} {f : F}
theorem vf_lendO (i : Nat) (h : VF X W A H0 e f) : VF X W A H0 e (fLendFO i f) := pe_imp h fun σ H Q ⟨env, I, r, q⟩ => by
  have q0 : PostF X.K W σ I H ((f (frzO i env)).bind lfL) Q := q
  unfold frzO at q0
  cases he : env[i]? with
  | none => rw [he] at q0; exact ⟨env, I, r, lend_postF r.g.ih (Ex.refl _) r.g.ih (fun _ _ z => .inl z) q0⟩
  | some s =>
    rw [he] at q0
    cases s with
    | ow d =>
      cases d with
      | d d =>
        obtain ⟨I', e', hl, r'⟩ := r.freezeO he
        exact ⟨_, I', r', lend_postF r.g.ih e' r'.g.ih hl q0⟩
      | n k b => exact ⟨env, I, r, lend_postF r.g.ih (Ex.refl _) r.g.ih (fun _ _ z => .inl z) q0⟩
    | _ => exact ⟨env, I, r, lend_postF r.g.ih (Ex.refl _) r.g.ih (fun _ _ z => .inl z) q0⟩
end
section
variable {K : PySem.W.Frag} {W : WX} {A H0 : Hp} {fr : Bool} {Z : Ends} {σ : L2.St} {H : Hp} {i j : Nat} {f : F}
theorem appWt_run (h : rdS K W A H0 fr (gAppWt i j f) Z σ H) : ∃ (t q : Addr) (vs us : List V), σ[i]? = some (some (.ref t)) ∧ SqT K H t vs ∧ vs[j]? = some (.ref q) ∧ H q = some (.lst us) ∧ rdE K W A H0 f σ H (fun v H1 => rAppend (.ref q) [v] H1 fun _ H2 => Z.nx σ H2) := by
  obtain ⟨env, I, r, q⟩ := h
  unfold gAppWt at q
  cases he : env[i]? with
  | none => rw [he] at q; exact q.elim
  | some s =>
    rw [he] at q
    cases s with
    | ow o =>
      cases o with
      | n k b => exact q.elim
      | d d0 =>
        cases d0 with
        | tup ds =>
          have q0 : PostS K W A H0 fr I Z (match ds[j]? with
            | some (.lst l) => if l.length < sizeLine then SR.of env (f env) fun _ => SR.nx ((forO env).set i .no) else SR.no
            | _ => SR.no) := q
          cases hj : ds[j]? with
          | none => rw [hj] at q0; exact q0.elim
          | some d =>
            rw [hj] at q0
            cases d with
            | lst l =>
              have q1 : PostS K W A H0 fr I Z (if l.length < sizeLine then SR.of env (f env) fun _ => SR.nx ((forO env).set i .no) else SR.no) := q0
              by_cases hz : l.length < sizeLine
              · rw [if_pos hz] at q1
                obtain ⟨v, J, h1, w, h3⟩ := r.ow i _ he
                have h3' : Rd K (mrg (nol I) J) v (.tup ds) := h3
                obtain ⟨t, vs, rfl, ht, hv⟩ := h3'.tup_inv
                have iH : Ex (mrg (nol I) J) H := mrg_ex r.g.ih w.h
                obtain ⟨x, x1, x2⟩ := hv.get hj
                obtain ⟨p, us, rfl, y1, y2⟩ := x2.lst_inv
                have jp : J p = some (.lst us) := by
                  rcases mrg_or y1 with z | ⟨_, z⟩
                  · exact absurd rfl ((nol_some z).2 us)
                  · exact z
                refine ⟨t, p, vs, us, h1, (ht.mono iH).sq, x1, w.h _ _ jp, env, I, r, of_run r q1 fun d y I1 H1 e1 r1 g1 k1 q2 => ?_⟩
                have w1 := w.grow g1
                refine ⟨p, us, y, rfl, rfl, w1.h _ _ jp, by rw [y2.length]; exact hz, q2 σ I1 _ ?_ (Ex.refl _)⟩
                have gt : ∀ (k : Nat) (s : Sl), s ≠ .no → ((forO env).set i .no)[k]? = some s → env[k]? = some s := fun k s n1 e => by
                  rcases set_get e with ⟨_, z⟩ | ⟨_, z⟩
                  · exact absurd z n1
                  · rcases (forO_get z).1 with y | y
                    · exact absurd y n1
                    · exact y
                have w2 : Own ((forO env).set i .no) σ I1 H0 H1 J := w1.less (fun k l e => ⟨⟨l, gt k _ (fun z => nomatch z) e⟩, rfl⟩) (fun k ks l e => ⟨⟨ks, l, gt k _ (fun z => nomatch z) e⟩, rfl⟩)
                exact (r1.forO (i := i)).chgO (forO_no (s := .no) fun _ z => nomatch z) w2 jp
              · rw [if_neg hz] at q1; exact q1.elim
            | _ => exact q0.elim
        | _ => exact q.elim
    | _ => exact q.elim
end
section
variable {X : Cx} {W : WX} {A H0 : Hp} {fr : Bool} {e : Expr} {f : F} {pos : Pos}
theorem vs_appWt (i j : Nat) {x : Str} {n : Int} {ck : Nat} {p q1 q2 apos : Pos} (he : VE X W A H0 e f) (hj : n = (j : Int) := by rfl)
    (hN : X.N[i]? = some x := by rfl) (hv : Vis X.env.scope x := by first | exact Or.inl rfl | exact Or.inr (Or.inl rfl) | exact Or.inr (Or.inr rfl)) (hd : (x == ("__debug__" : Str)) = false := by decide) (hcd : (x == ("__classdict__" : Str)) = false := by decide)
    (hs1 : starEach (e :: []) X.env = (false, eval e X.env) :: starEach [] X.env := by rfl)
    (hbase : attributeBase (.Subscript (.Name x p) (.Constant (.int n) ck q1) q2) "append" X.env (eval (.Subscript (.Name x p) (.Constant (.int n) ck q1) q2) X.env) = eval (.Subscript (.Name x p) (.Constant (.int n) ck q1) q2) X.env := by rfl)
    {cpos : Pos} (hfew : ((backTo cpos (starEach (e :: []) X.env)).all (fun x => !x.1) && (backToKw cpos (keywordEach [] X.env)).all (fun x => x.1.isSome) && decide ((e :: []).length + ([] : List Keyword).length + (if ([] : List Keyword).isEmpty then 0 else 1) < 30)) = true := by rfl)
    (hline : (apos.endLine == cpos.line) = true := by rfl) (hplain : (backTo cpos (starEach [] X.env)).any (·.1) = false := by rfl)
    (hs : swapsWith (.Call (.Attribute (.Subscript (.Name x p) (.Constant (.int n) ck q1) q2) "append" apos) [e] [] cpos) none pos.line X.env = pure false := by rfl) :
    VS X W A H0 fr (.Expr (.Call (.Attribute (.Subscript (.Name x p) (.Constant (.int n) ck q1) q2) "append" apos) [e] [] cpos) pos) (gAppWt i j f) :=
  ps_imp (ps_expr (pe_bm PySem.F.plainAttrs_list PySem.F.slot_list_append PySem.F.type_list_append mt_append (pe_ix L2.ix_tup (pe_var hN hv hd hcd) pe_int (fun _ _ => rfl)) (pa_cons he pa_nil hs1) hbase hfew hline hs1 hplain) hs) fun Z σ H h => by
    obtain ⟨t, q, vs, us, h1, h2, h3, h4, k⟩ := appWt_run h
    subst hj
    exact ⟨.ref t, h1, t, vs, (j : Int), .ref q, rfl, rfl, h2, atI_nat h3, ty_lst h4, k⟩
end
end BW
/-! BCore57: sorted(set(list of ints)). -/
namespace BW
open PySem PySem.Spec PyProof.Rows L2
open Evl (Ex Ex.refl Ex.trans Ex.new ex_rd ex_l ex_t)
/-- the object of a set just made -/
abbrev nuO (w : World) : Obj := { cls := .type "set", dict := none, data := .set #[] 0 (.fresh 0 0 (!w.params.followText "set-order")) }
section
variable {P : Program} {w : World} {A : Around} {E : Value → Shared → Prop}
/-- the iterator's object -/
abbrev liO (q : Addr) : Obj := { cls := .type "list_iterator", data := .fields #[.ref q, .int 0 0] }
theorem set_of_list {u : Shared} {q : Addr} {xs : Array Value} (ks : List Int) {Q : Value → Shared → Prop} (qa : A.handled = none) (ql : u.heap.IsList q xs) (qi : IntsAre xs.toList ks) (qb : ks.length + 1 < scanBound)
    (qq : ∀ (g : Heap) (tk c : Nat), SetR w g u.heap.objs.size (fun j => decide (j ∈ ks)) c → c ≤ ks.length → (∀ b o, u.heap.get? b = some o → g.get? b = some o) → Q (.ref u.heap.objs.size) { u with heap := g, toks := tk }) :
    wpAny (model P w) A (call (.type "set") [.ref q]) Q E u := by
  have zl : xs.size = ks.length := by have z := IntsAre.length qi; rwa [Array.length_toList] at z
  obtain ⟨c0, tl0, mro0⟩ := F.called_set.mro; have made0 := F.called_set.made; have sub0 := F.called_set.sub
  refine wpAny_call (codeAny_of_tree ?_); show wpAny _ _ (callAny (.type "set") _) _ _ _
  refine wpAny_pure ⟨Code.quiet_builtin _ (by decide +kernel), codeAny_builtin F.entry_type_call ?_⟩; rw [Around.under_plain (weight_type_call_type "set" [.ref q] []) rfl]
  have x1 := F.called_set.notType; have x2 := F.called_set.canCreate; have x3 := F.typeCall_set_1 (.ref q)
  repeat (any_goals (first | assumption | wp_step))
  refine codeAny_mono (code_set_led1 (.ref q) (E := E) (Q₁ := fun ob u1 => ob = .ref u.heap.objs.size ∧ u1 = { u with heap := u.heap.push (nuO w) }) ⟨rfl, rfl⟩) fun r u1 hr => ?_
  cases r with
  | error e => exact hr
  | ok fl =>
    cases fl with
    | ret ob =>
      obtain ⟨rfl, rfl⟩ := hr
      have hS : (u.heap.push (nuO w)).get? u.heap.objs.size = some (nuO w) := Heap.get?_push_size _ rfl
      have hT : Shared.TypeIs { u with heap := u.heap.push (nuO w) } (.ref u.heap.objs.size) "set" := ⟨_, hS, rfl⟩
      have x4 := F.called_set.init.lookup; have x5 := F.called_set.init.bind (.ref u.heap.objs.size)
      repeat (any_goals (first | assumption | wp_step))
      refine codeAny_mono (codeAny_call_builtin (R := wants (fun r u2 => r = .none ∧ ∃ g tk c, u2 = { u with heap := g, toks := tk } ∧ SetR w g u.heap.objs.size (fun j => decide (j ∈ ks)) c ∧ c ≤ ks.length ∧ (∀ b o, u.heap.get? b = some o → g.get? b = some o)) E) F.called_set.init.plain F.entry_set_init (check_set_init_1 hT ?_)) fun r2 u2 hr2 => ?_
      · obtain ⟨ol, y1, y2, nl, y3⟩ := ql
        obtain ⟨oc, od, oa, os⟩ := ol
        simp only at y2 y3; subst y2; subst y3
        have y4 : (u.heap.push (nuO w)).get? q = some { cls := .type "list", dict := od, data := .seq xs nl, slots := os } := Heap.get?_push_of_some _ y1
        have z1 := F.sub_list_set; have z2 := F.sub_list_frozenset
        have z3 : (Value.type "list" == Value.type "dict") = false := by decide
        have y5 : (u.heap.push (nuO w)).IsList q xs := ⟨_, y4, rfl, nl, rfl⟩
        unfold Builtin.«set.__init__» noKeywords Builtin.Frozenset.updateFrom
        generalize z4 : pyIter = PI
        wp_walk
        subst z4
        refine wpAny_pyIter_list y5 (wpAny_bind (wpAny_runValue ?_))
        have k0 : q < u.heap.objs.size := Heap.lt_size y1
        have k1 : A.in1.in1.in1.handled = none := by simp [qa]
        have k2 : (u.heap.push (nuO w)).objs.size = u.heap.objs.size + 1 := Heap.size_push ..
        have k3 : q ≠ (u.heap.push (nuO w)).objs.size := by rw [k2]; exact Nat.ne_of_lt (Nat.lt_succ_of_lt k0)
        have k4 : u.heap.objs.size ∉ [(u.heap.push (nuO w)).objs.size, q] := by
          rw [k2]; intro z; rcases List.mem_cons.mp z with z | z
          · exact Nat.ne_of_lt (Nat.lt_succ_self _) z
          · exact Nat.ne_of_gt k0 (List.mem_singleton.mp z)
        have k5 : ∀ (i : Nat) (v : Value), xs[i]? = some v → ∃ k t, ks[i]? = some k ∧ v = .int k t := fun i v hv => by
          have hi : i < ks.length := by rw [← zl]; exact (Array.getElem?_eq_some_iff.mp hv).1
          obtain ⟨t, e⟩ := PyProof.Rows.IntsAre.int_at qi i v (by rw [Array.getElem?_toList]; exact hv)
          exact ⟨ks[i], t, List.getElem?_eq_getElem hi, by rw [e, List.getD_eq_getElem?_getD, List.getElem?_eq_getElem hi] <;> rfl⟩
        refine set_update_ints ((Walks.list k1 _ q k3 xs).toS) u.heap.objs.size k4 ks zl qb k5 (xs.size - 0) 0 _ (by omega) (Nat.zero_le _) ⟨⟨_, Heap.get?_push_size _ rfl, rfl, rfl⟩, (y5.push _)⟩ ?_ ?_
        · exact ⟨0, Nat.le_refl 0, setR_new_at (show ((u.heap.push (nuO w)).push (liO q)).get? u.heap.objs.size = some (nuO w) from Heap.get?_push_of_some _ hS)⟩
        · intro u3 c' hm hc' hS'
          obtain ⟨g, g2, d3, tk, o3⟩ := u3
          have e1 : g2 = u.gens := hm.gens; have e2 : d3 = u.drawn := hm.drawn; have e3 : o3 = u.os := hm.os
          subst e1; subst e2; subst e3
          show wpAny _ _ _ _ _ _
          refine wpAny_pure ?_; show wpAny _ _ (ret Value.none) _ _ _
          rw [zl] at hc'
          refine wpAny_pure ⟨rfl, g, tk, c', rfl, hS', hc', fun b o e => ?_⟩
          have b0 : b < u.heap.objs.size := Heap.lt_size e
          refine hm.heap b o (fun z => ?_) (Heap.get?_push_of_some _ (Heap.get?_push_of_some _ e))
          rcases List.mem_cons.mp z with z | z
          · exact Nat.ne_of_lt b0 z
          · have z5 := List.mem_singleton.mp z; rw [k2] at z5; exact Nat.ne_of_lt (Nat.lt_succ_of_lt b0) z5
      · cases r2 with
        | error e => exact hr2
        | ok fl2 =>
          cases fl2 with
          | ret r =>
            obtain ⟨rfl, g, tk, c, rfl, s1, s2, s3⟩ := hr2
            repeat (any_goals (first | assumption | wp_step))
            exact qq _ _ _ s1 s2 s3
          | _ => exact hr2.elim
    | _ => exact hr.elim
end
/-- set(x), x a list of ints -/
def rSetL (K : PySem.W.Frag) (w : World) : List V → Hp → VK → Prop := fun vs H Q => ∃ (a : Addr) (ns : List Int), vs = [.ref a] ∧ SqL K H a (ns.map V.int) ∧ ns.length < 64 ∧
  ∀ (p : Addr) (c : Nat), H p = none → c ≤ ns.length → Q (.ref p) (upd H p (SetO w p (fun j => decide (j ∈ ns)) c))
theorem cr_setL {X : Cx} (hc : X.calm = true) : CallR X (.type "set") (rSetL X.K X.w) := by
  intro pins s σ H vs us Q I r h
  obtain ⟨a, ns, rfl, hs, hl, q⟩ := h
  rw [Vals.ref1 r]
  obtain ⟨its, rv, pl, hz⟩ := I.list hs
  have hi : IntsAre its.toArray.toList ns := by simpa using rv.ints
  refine set_of_list ns (I.ok.hd hc) pl.isList hi (by unfold scanBound; omega) fun h' tk c R hcn k => ?_
  have hn : H s.heap.objs.size = none := I.hok.fresh (Nat.le_refl _)
  exact ⟨.ref _, upd H s.heap.objs.size (SetO X.w s.heap.objs.size (fun j => decide (j ∈ ns)) c), I.laid (t' := tk) (fun b u e => k b u e) (Nat.le_refl _) (setO_new R), rfl, q _ c hn hcn⟩
/-- rising, each once -/
def insS (x : Int) : List Int → List Int
  | [] => [x]
  | y :: r => if x < y then x :: y :: r else if x = y then y :: r else y :: insS x r
def sortS : List Int → List Int
  | [] => []
  | x :: r => insS x (sortS r)
theorem mem_insS {x k : Int} : ∀ {l : List Int}, k ∈ insS x l ↔ k = x ∨ k ∈ l
  | [] => by simp [insS]
  | y :: r => by
    unfold insS
    by_cases h : x < y
    · rw [if_pos h]; simp
    · rw [if_neg h]
      by_cases e : x = y
      · rw [if_pos e]; subst e; simp
      · rw [if_neg e, List.mem_cons, mem_insS, List.mem_cons]
        constructor
        · rintro (z | z | z)
          · exact .inr (.inl z)
          · exact .inl z
          · exact .inr (.inr z)
        · rintro (z | z | z)
          · exact .inr (.inl z)
          · exact .inl z
          · exact .inr (.inr z)
theorem mem_sortS {k : Int} : ∀ {l : List Int}, k ∈ sortS l ↔ k ∈ l
  | [] => Iff.rfl
  | x :: r => by
    show k ∈ insS x (sortS r) ↔ _
    rw [mem_insS, mem_sortS, List.mem_cons]
theorem insS_up {x : Int} : ∀ {l : List Int}, l.Pairwise (· < ·) → (insS x l).Pairwise (· < ·)
  | [], _ => List.pairwise_singleton ..
  | y :: r, h => by
    obtain ⟨h1, h2⟩ := List.pairwise_cons.mp h
    unfold insS
    by_cases c : x < y
    · rw [if_pos c]
      refine List.pairwise_cons.mpr ⟨fun z hz => ?_, h⟩
      rcases List.mem_cons.mp hz with e | e
      · rw [e]; exact c
      · have := h1 z e; omega
    · rw [if_neg c]
      by_cases e : x = y
      · rw [if_pos e]; exact h
      · rw [if_neg e]
        refine List.pairwise_cons.mpr ⟨fun z hz => ?_, insS_up h2⟩
        rcases mem_insS.mp hz with e1 | e1
        · omega
        · exact h1 z e1
theorem sortS_up : ∀ {l : List Int}, (sortS l).Pairwise (· < ·)
  | [] => .nil
  | _ :: _ => insS_up sortS_up
theorem up_one : ∀ {l m : List Int}, l.Pairwise (· < ·) → m.Pairwise (· < ·) → (∀ k, k ∈ l ↔ k ∈ m) → l = m
  | [], [], _, _, _ => rfl
  | [], b :: m, _, _, e => absurd ((e b).mpr List.mem_cons_self) (by simp)
  | a :: l, [], _, _, e => absurd ((e a).mp List.mem_cons_self) (by simp)
  | a :: l, b :: m, h1, h2, e => by
    obtain ⟨p1, p2⟩ := List.pairwise_cons.mp h1
    obtain ⟨q1, q2⟩ := List.pairwise_cons.mp h2
    have ab : a = b := by
      rcases List.mem_cons.mp ((e a).mp List.mem_cons_self) with z | z
      · exact z
      · rcases List.mem_cons.mp ((e b).mpr List.mem_cons_self) with y | y
        · exact y.symm
        · have := q1 a z; have := p1 b y; omega
    subst ab
    rw [up_one p2 q2 fun k => ⟨fun hk => by
      rcases List.mem_cons.mp ((e k).mp (List.mem_cons_of_mem _ hk)) with z | z
      · have := p1 k hk; omega
      · exact z, fun hk => by
      rcases List.mem_cons.mp ((e k).mpr (List.mem_cons_of_mem _ hk)) with z | z
      · have := q1 k hk; omega
      · exact z⟩]
def sortedSetD : List D → R D
  | [x] => match listInts x with
    | some ns => if ns.length < 64 then .ok (.lst ((sortS ns).map D.int)) else .no
    | none => .no
  | _ => .no
section
variable {X : Cx} {W : WX} {A H0 : Hp} {e : Expr} {fs : FA}
theorem sortedSet_run {σ : L2.St} {H : Hp} {Q : VK} (h : rdF X.K W A H0 (fA sortedSetD fs) σ H Q) : tCB (rSortedSet X.w) (tCons (tCB (rSetL X.K X.w) (rdA X.K W A H0 [false] fs)) tNil) σ H Q := by
  obtain ⟨env, I, rl, q⟩ := h
  refine ⟨env, I, rl, ?_⟩
  have q1 : PostF X.K W σ I H ((fs env).bind sortedSetD) Q := q
  cases hs : fs env with
  | er c p => rw [hs] at q1; exact q1
  | no => rw [hs] at q1; exact q1.elim
  | ok ds =>
    rw [hs] at q1
    intro vs I1 H1 g1 k1
    have q2 : PostF X.K W σ I H (sortedSetD ds) Q := q1
    obtain ⟨x, rfl⟩ := one_of (argsLen k1)
    obtain ⟨v, rfl, hv⟩ := args1 k1
    have q3 : PostF X.K W σ I H (match listInts x with | some ns => if ns.length < 64 then R.ok (D.lst ((sortS ns).map D.int)) else .no | none => .no) Q := q2
    cases hx : listInts x with
    | none => rw [hx] at q3; exact q3.elim
    | some ns =>
      rw [hx] at q3
      have q4 : PostF X.K W σ I H (if ns.length < 64 then R.ok (D.lst ((sortS ns).map D.int)) else .no) Q := q3
      by_cases hl : ns.length < 64
      · rw [if_pos hl] at q4
        obtain ⟨a, rfl, k⟩ := listInts_rd hv hx
        refine ⟨a, ns, rfl, k, hl, fun p c hp hc => ⟨p, _, c, rfl, upd_same, by omega, fun ms p2 h1 h2 h3 h4 => ?_⟩⟩
        have em : ms = sortS ns := up_one h1 sortS_up fun k => by rw [h2 k, mem_sortS, decide_eq_true_eq]
        subst em
        have hh1 : H1 p2 = none := Evl.fresh_back (Ex.new hp) h4
        exact q4 p2 _ I1 _ (g1.trans (Grow.hid g1.ih ((Ex.new hp).trans (Ex.new h4)))) (Evl.fresh_back g1.h hh1) (Evl.fresh_back g1.ih hh1) upd_same RdA.ints
      · rw [if_neg hl] at q4; exact q4.elim
theorem vf_sortedSet {p p2 pos pos2 : Pos} (hc : X.calm = true) (hm : X.mg "sorted" = none) (hm2 : X.mg "set" = none) (ha : VA X W A H0 [e] [false] fs) (hg : Gl X "sorted" := by rfl) (hg2 : Gl X "set" := by rfl)
    (na : starEach [e] X.env = (false, eval e X.env) :: starEach [] X.env := by rfl)
    (nb : starEach [.Call (.Name "set" p2) [e] [] pos2] X.env = (false, eval (.Call (.Name "set" p2) [e] [] pos2) X.env) :: starEach [] X.env := by rfl)
    (pl : (backTo pos2 (starEach [] X.env)).any (·.1) = false := by rfl) (pl2 : (backTo pos (starEach [] X.env)).any (·.1) = false := by rfl) :
    VF X W A H0 (.Call (.Name "sorted" p) [.Call (.Name "set" p2) [e] [] pos2] [] pos) (fA sortedSetD fs) :=
  pe_imp (pe_callB (cr_sortedSet hc) hg hm (by decide +kernel) (pa_cons (pe_callTy (cr_setL hc) hg2 hm2 (by decide +kernel) ha (by decide) (by decide) na pl) pa_nil nb) (by decide) (by decide) nb pl2) fun σ H Q h => sortedSet_run h
end
end BW
/-! BCore58: sorted(dict). -/
namespace BW
open PySem PySem.Spec PyProof.Rows L2
open Evl (Ex Ex.refl Ex.trans Ex.new ex_rd ex_l ex_t)
def sortedDD : List D → R D
  | [.dct ks _] => if ks.length < 64 then .ok (.lst ((sortI ks).map D.int)) else .no
  | _ => .no
theorem nea_sortedDD : NoErA sortedDD := fun ds c p => by
  unfold sortedDD
  repeat' split
  all_goals exact fun z => nomatch z
theorem gcf_sortedDD {K : PySem.W.Frag} : GCF K (fun xs H Q => ∃ (a : Addr) (kvs : List (Key × V)) (ks : List Int), xs = [.ref a] ∧ L2.Rd H a (.dK kvs) ∧ kvs.map (·.1) = ks.map Sum.inl ∧ ks.length < 64 ∧
    ∀ (ys : List Int) (p : Addr), ys.Perm ks → ys.Pairwise (· ≤ ·) → H p = none → Q (.ref p) (upd H p (.lst (ys.map V.int)))) [false] sortedDD := by
  intro vs ds d I H Q ih ha e
  obtain ⟨x, rfl⟩ := one_of (argsLen ha)
  obtain ⟨v, rfl, hv⟩ := args1 ha
  cases hv with
  | @dct a ob kvs ks ds h1 h2 h3 =>
    have e' : (if ks.length < 64 then R.ok (D.lst ((sortI ks).map D.int)) else .no) = .ok d := e
    by_cases hl : ks.length < 64
    · rw [if_pos hl] at e'
      refine ⟨_, (ok_inj e').symm, fun q => ⟨a, kvs, ks, rfl, .inr ⟨_, h1⟩, h2, hl, fun ys p k1 k2 hp => ?_⟩⟩
      have : ys = sortI ks := sorted_one k2 (sortI_sorted ks) (k1.trans (sortI_perm ks).symm)
      subst this
      exact q p _ I _ (Grow.hid ih (Ex.new hp)) hp (Evl.fresh_back ih hp) upd_same RdA.ints
    · rw [if_neg hl] at e'; cases e'
  | _ => cases e
end BW
/-! BCore59: texts: join, split, signs one by one, int(text), a text so many times. -/
namespace BW
open PySem PySem.Spec PyProof.Rows L2
open Evl (Ex Ex.refl Ex.trans Ex.new ex_rd ex_l ex_t)
def strsD : List D → Option (List Str)
  | [] => some []
  | .str z :: l => (strsD l).map (z :: ·)
  | _ => none
theorem strs_map : ∀ l : List Str, strsD (l.map D.str) = some l
  | [] => rfl
  | z :: l => by
    show (strsD (l.map D.str)).map (z :: ·) = _
    rw [strs_map l]; rfl
theorem strs_inv : ∀ {l : List D} {zs : List Str}, strsD l = some zs → l = zs.map D.str
  | [], zs, h => by cases h; rfl
  | d :: l, zs, h => by
    cases d <;> try (cases h; done)
    rename_i z
    have h : (strsD l).map (z :: ·) = some zs := h
    cases hl : strsD l with
    | none => rw [hl] at h; cases h
    | some ys =>
      rw [hl] at h
      cases h
      rw [strs_inv hl]; rfl
theorem strs_rd {K : PySem.W.Frag} {I : Hp} : ∀ {zs : List Str} {vs : List V}, RdA K I vs (zs.map D.str) → vs = zs.map V.str
  | [], _, .nil => rfl
  | z :: zs, _, .cons h q => by rw [h.str_inv, strs_rd q]; rfl
theorem rd_strs {K : PySem.W.Frag} {I : Hp} : ∀ zs : List Str, RdA K I (zs.map V.str) (zs.map D.str)
  | [] => .nil
  | _ :: zs => .cons .str (rd_strs zs)
def zsD : D → R D
  | .str z => .ok (.str z)
  | _ => .no
theorem zsD_no {d : D} (h : ∀ z, d ≠ .str z) : zsD d = .no := by
  cases d <;> first | rfl | exact absurd rfl (h _)
theorem D.str_or (d : D) : (∃ z, d = .str z) ∨ ∀ z, d ≠ .str z := by
  cases d <;> first | exact .inl ⟨_, rfl⟩ | exact .inr fun _ z => nomatch z
def joinD : D → D → R D
  | .str a, .lst l => match strsD l with
    | some ys => if (ys.map (·.length)).sum + ys.length * a.length ≤ 16777216 then .ok (.str (Txt.join a ys)) else .no
    | none => .no
  | _, _ => .no
def splitD : D → D → R D
  | .str a, .str b => if (b.length == 0) = false ∧ a.length + 2 ≤ sizeLine then .ok (.lst ((Txt.split a b).map D.str)) else .no
  | _, _ => .no
def signsD : D → R D
  | .str z => .ok (.lst (z.cps.toList.map fun c => .str ⟨#[c]⟩))
  | _ => .no
def intSD : List D → R D
  | [.str z] => if z.length ≤ 640 then (match intText? z with | some n => .ok (.int n) | none => .no) else .no
  | [x] => intD [x]
  | _ => .no
def repZ (x : Str) (n : Int) : Str := ⟨(List.replicate n.toNat x.cps).foldl (· ++ ·) #[]⟩
def mulSD : D → D → R D
  | .str z, .int n => if 2 ≤ n ∧ n ≤ 10000 ∧ z.length = 1 then .ok (.str (repZ z n)) else .no
  | _, _ => .no
section
variable {X : Cx} {W : WX} {A H0 : Hp} {o e a b : Expr} {fo fe fa fb : F} {pos : Pos}
theorem ve_join {apos : Pos} (ho : VE X W A H0 o fo) (he : VL X W A H0 e fe) (hs : starEach [e] X.env = [(false, eval e X.env)] := by rfl) (hbase : attributeBase o "join" X.env (eval o X.env) = eval o X.env := by rfl) (hline : (apos.endLine == pos.line) = true := by rfl) :
    VE X W A H0 (.Call (.Attribute o "join" apos) [e] [] pos) (f2 joinD (f1 zsD fo) (fLs fe)) :=
  pe_imp (pe_join ho he hs hbase hline) fun σ H Q ⟨env, I, rl, q⟩ => ⟨env, I, rl, by
    have q0 : PostE X.K W σ I H (((fo env).bind zsD).bind fun x => ((fe env).bind lsD).bind fun y => joinD x y) Q := q
    cases hf : fo env with
    | er c p => rw [hf] at q0; exact q0
    | no => rw [hf] at q0; exact q0.elim
    | ok d =>
      rw [hf] at q0
      rcases D.str_or d with ⟨z, rfl⟩ | hd
      · have q1 : PostE X.K W σ I H (((fe env).bind lsD).bind fun y => joinD (.str z) y) Q := q0
        intro v I1 H1 g1 k1
        rw [k1.str_inv]
        refine ⟨⟨z, rfl⟩, env, I1, rl.grow g1, ?_⟩
        cases hs2 : fe env with
        | er c p => rw [hs2] at q1; exact fun cls od I2 H2 g2 k2 => q1 cls od I2 H2 (g1.trans g2) k2
        | no => rw [hs2] at q1; exact q1.elim
        | ok y =>
          rw [hs2] at q1
          rcases D.lst_or y with ⟨l, rfl⟩ | hy
          · have q2 : PostE X.K W σ I H (match strsD l with | some ys => if (ys.map (·.length)).sum + ys.length * z.length ≤ 16777216 then R.ok (D.str (Txt.join z ys)) else .no | none => .no) Q := q1
            cases hl : strsD l with
            | none => rw [hl] at q2; exact q2.elim
            | some ys =>
              rw [hl] at q2
              have q3 : PostE X.K W σ I H (if (ys.map (·.length)).sum + ys.length * z.length ≤ 16777216 then R.ok (D.str (Txt.join z ys)) else .no) Q := q2
              by_cases hz : (ys.map (·.length)).sum + ys.length * z.length ≤ 16777216
              · rw [if_pos hz] at q3
                intro p vs I2 H2 g2 h1 h2
                rw [strs_inv hl] at h2
                rw [strs_rd h2] at h1
                exact ⟨z, p, ys, rfl, rfl, .inl (.inl (.inl h1)), hz, q3 _ I2 H2 (g1.trans g2) .str⟩
              · rw [if_neg hz] at q3; exact q3.elim
          · cases y <;> first | exact absurd rfl (hy _) | exact q1.elim
      · have q1 : PostE X.K W σ I H ((zsD d).bind fun x => ((fe env).bind lsD).bind fun y => joinD x y) Q := q0
        rw [zsD_no hd] at q1
        exact q1.elim⟩
theorem vf_split {apos : Pos} (ho : VE X W A H0 o fo) (he : VE X W A H0 e fe) (hs : starEach [e] X.env = [(false, eval e X.env)] := by rfl) (hbase : attributeBase o "split" X.env (eval o X.env) = eval o X.env := by rfl) (hline : (apos.endLine == pos.line) = true := by rfl) :
    VF X W A H0 (.Call (.Attribute o "split" apos) [e] [] pos) (f2 splitD (f1 zsD fo) (f1 zsD fe)) :=
  pe_imp (pe_split ho he hs hbase hline) fun σ H Q ⟨env, I, rl, q⟩ => ⟨env, I, rl, by
    have q0 : PostF X.K W σ I H (((fo env).bind zsD).bind fun x => ((fe env).bind zsD).bind fun y => splitD x y) Q := q
    cases hf : fo env with
    | er c p => rw [hf] at q0; exact q0
    | no => rw [hf] at q0; exact q0.elim
    | ok d =>
      rw [hf] at q0
      rcases D.str_or d with ⟨z, rfl⟩ | hd
      · have q1 : PostF X.K W σ I H (((fe env).bind zsD).bind fun y => splitD (.str z) y) Q := q0
        intro v I1 H1 g1 k1
        rw [k1.str_inv]
        refine ⟨⟨z, rfl⟩, env, I1, rl.grow g1, ?_⟩
        cases hs2 : fe env with
        | er c p => rw [hs2] at q1; exact fun cls od I2 H2 g2 k2 => q1 cls od I2 H2 (g1.trans g2) k2
        | no => rw [hs2] at q1; exact q1.elim
        | ok y =>
          rw [hs2] at q1
          rcases D.str_or y with ⟨b, rfl⟩ | hy
          · have q2 : PostF X.K W σ I H (if (b.length == 0) = false ∧ z.length + 2 ≤ sizeLine then .ok (.lst ((Txt.split z b).map D.str)) else .no) Q := q1
            by_cases hz : (b.length == 0) = false ∧ z.length + 2 ≤ sizeLine
            · rw [if_pos hz] at q2
              intro u I2 H2 g2 k2
              rw [k2.str_inv]
              refine ⟨z, b, rfl, rfl, hz.1, hz.2, fun p hp => ?_⟩
              exact q2 p _ I2 _ ((g1.trans g2).trans (Grow.hid g2.ih (Ex.new hp))) (Evl.fresh_back (g1.trans g2).h hp) (Evl.fresh_back g2.ih hp) upd_same (rd_strs _)
            · rw [if_neg hz] at q2; exact q2.elim
          · have q2 : PostF X.K W σ I H ((zsD y).bind fun y => splitD (.str z) y) Q := q1
            rw [zsD_no hy] at q2
            exact q2.elim
      · have q1 : PostF X.K W σ I H ((zsD d).bind fun x => ((fe env).bind zsD).bind fun y => splitD x y) Q := q0
        rw [zsD_no hd] at q1
        exact q1.elim⟩
theorem serves_signs {K : PySem.W.Frag} {I : Hp} {z : Str} : Serves K (Its z) (z.cps.toList.map fun c => .str ⟨#[c]⟩) I := by
  have w := walk_str (z := z)
  unfold Serves
  rw [List.length_map, Array.length_toList]
  refine w.mono (fun _ _ => trivial) fun i H' x H'' hi e y => ?_
  obtain ⟨rfl, c, h1, rfl⟩ := y
  refine ⟨.str ⟨#[c]⟩, ?_, .inl ⟨rfl, .str⟩⟩
  rw [List.getElem?_map, Array.getElem?_toList, h1]
  rfl
theorem vi_signs {tg : Expr} (h : VE X W A H0 e fe) : VI X W A H0 tg e (f1 signsD fe) := pi_imp (pi_str h) fun σ H R ⟨env, I, rl, q⟩ => ⟨env, I, rl, by
  have q1 : PostI X.K W σ I H ((fe env).bind signsD) R := q
  cases hf : fe env with
  | ok d =>
    rw [hf] at q1
    rcases D.str_or d with ⟨z, rfl⟩ | hd
    · intro v I' H' g k
      rw [k.str_inv]
      exact ⟨z, rfl, q1 _ I' H' g serves_signs⟩
    · cases d <;> first | exact absurd rfl (hd _) | exact q1.elim
  | er c p => rw [hf] at q1; exact q1
  | no => rw [hf] at q1; exact q1.elim⟩
theorem call_or {f : Value} {r1 r2 : List V → Hp → VK → Prop} (h1 : CallR X f r1) (h2 : CallR X f r2) : CallR X f (fun xs H Q => r1 xs H Q ∨ r2 xs H Q) := fun pins s σ H xs us Q I r h => h.elim (h1 pins s σ H xs us Q I r) (h2 pins s σ H xs us Q I r)
theorem gc_intS {K : PySem.W.Frag} : GC K (fun xs H Q => ((∃ i, xs = [.int i] ∧ Q (.int i) H) ∨ ∃ k, xs = [.bl k] ∧ Q (.int (if k then 1 else 0)) H) ∨ ∃ a n, xs = [.str a] ∧ PySem.intText? a = some n ∧ a.length ≤ 640 ∧ Q (.int n) H) [false] intSD := by
  intro vs ds d I H Q ih ha e k
  obtain ⟨x, rfl⟩ := one_of (argsLen ha)
  rcases D.str_or x with ⟨z, rfl⟩ | hd
  · obtain ⟨v, rfl, hv⟩ := args1 ha
    have e' : (if z.length ≤ 640 then (match intText? z with | some n => R.ok (D.int n) | none => .no) else .no) = .ok d := e
    by_cases hz : z.length ≤ 640
    · rw [if_pos hz] at e'
      cases ht : intText? z with
      | none => rw [ht] at e'; cases e'
      | some n =>
        rw [ht] at e'
        rw [hv.str_inv]
        have := ok_inj e'
        subst this
        exact .inr ⟨z, n, rfl, ht, hz, k _ I H (Grow.refl ih) .int⟩
    · rw [if_neg hz] at e'; cases e'
  · have e' : intD [x] = .ok d := by
      cases x <;> first | exact absurd rfl (hd _) | exact e
    exact .inl (gc_int vs [x] d I H Q ih ha e' k)
theorem nea_intS : NoErA intSD := fun ds c p => by
  unfold intSD
  split
  · split
    · split
      · exact fun z => nomatch z
      · exact fun z => nomatch z
    · exact fun z => nomatch z
  · exact nea_int _ c p
  · exact fun z => nomatch z
theorem call_intS : CallR X (.type "int") (fun xs H Q => ((∃ i, xs = [.int i] ∧ Q (.int i) H) ∨ ∃ k, xs = [.bl k] ∧ Q (.int (if k then 1 else 0)) H) ∨ ∃ a n, xs = [.str a] ∧ PySem.intText? a = some n ∧ a.length ≤ 640 ∧ Q (.int n) H) := call_or call_int1 call_int_str
def rMulS : R2 := fun x y H Q => ∃ z n, x = .str z ∧ y = .int n ∧ 2 ≤ n ∧ n ≤ 10000 ∧ z.length = 1 ∧ Q (.str (repZ z n)) H
theorem op_mulS : OpR X (binaryOp .Mult) rMulS := by
  intro pins s σ H x y v u Q I rx ry h
  obtain ⟨z, n, rfl, rfl, h1, h2, h3, q⟩ := h
  obtain ⟨t, rfl⟩ := rx
  obtain ⟨t', rfl⟩ := ry
  have n1 : ¬ n < 1 := by omega
  have n2 : (n == 1 || z.length == 0) = false := by
    rw [h3]
    have : (n == 1) = false := by simpa using (by omega : n ≠ 1)
    rw [this]; rfl
  refine PySem.P.mul_str ?_ (fun _ _ => ?_) (fun _ _ => ?_) ?_
  · have a1 : ¬ n < -(2 ^ 63 : Int) := by omega
    have a2 : ¬ n ≥ 2 ^ 63 := by omega
    rw [decide_eq_false a1, decide_eq_false a2]; rfl
  · rw [h3]
    have : (1 : Int) ≤ (2 ^ 63 - 1) / n := Int.le_ediv_of_mul_le (by omega) (by omega)
    show ¬ ((1 : Nat) : Int) > _
    omega
  · rw [h3, Nat.one_mul]
    have : n.toNat ≤ 10000 := by omega
    exact decide_eq_false (by show ¬ n.toNat > sizeLine; rw [sizeLine_eq]; omega)
  · rw [if_neg n1, n2]
    have hl : (repZ z n).length = n.toNat := by
      have g : ∀ (m : Nat) (acc : Array Nat), ((List.replicate m z.cps).foldl (· ++ ·) acc).size = acc.size + m * z.cps.size := by
        intro m
        induction m with
        | zero => intro acc; simp
        | succ m ih => intro acc; rw [List.replicate_succ, List.foldl_cons, ih, Array.size_append, Nat.succ_mul]; omega
      have g2 := g n.toNat #[]
      have g3 : z.cps.size = 1 := h3
      rw [g3, Nat.mul_one] at g2
      show ((List.replicate n.toNat z.cps).foldl (· ++ ·) #[]).size = n.toNat
      rw [g2]; simp
    exact ⟨by
      show (repZ z n).length ≤ sizeLine
      rw [hl, sizeLine_eq]; omega, ⟨.str (repZ z n), H, I.tok _, ⟨_, rfl⟩, q⟩⟩
theorem so_mulS {K : PySem.W.Frag} : SOp K rMulS mulSD := fun x y dx dy d H Q hx hy e => by
  rcases D.str_or dx with ⟨z, rfl⟩ | hd
  · cases dy <;> try (cases e; done)
    rename_i n
    have e' : (if 2 ≤ n ∧ n ≤ 10000 ∧ z.length = 1 then R.ok (D.str (repZ z n)) else .no) = .ok d := e
    by_cases hz : 2 ≤ n ∧ n ≤ 10000 ∧ z.length = 1
    · rw [if_pos hz] at e'
      have := ok_inj e'
      subst this
      exact ⟨_, rfl, fun q => ⟨z, n, hx.str_inv, hy.int_inv, hz.1, hz.2.1, hz.2.2, q⟩⟩
    · rw [if_neg hz] at e'; cases e'
  · cases dx <;> first | exact absurd rfl (hd _) | cases e
theorem ne_mulS : NoEr mulSD := fun x y c p => by
  unfold mulSD
  repeat' split
  all_goals exact fun z => nomatch z
theorem ve_mulS (ha : VB X W A H0 a fa) (hb : VB X W A H0 b fb) : VE X W A H0 (.BinOp a .Mult b pos) (f2 mulSD fa fb) := ve_op op_mulS so_mulS ne_mulS ha hb
end
end BW
/-! BTy1: typed functions, and what it is that a function over data keeps one. -/
namespace BW
open PySem PySem.Spec PyProof.Rows L2
/-! ### what names hold, where it is known -/
abbrev Ce := List (Option Sl)
inductive Has : Ce → En → Prop
  | nil : Has [] []
  | som {s c e} : Has c e → Has (some s :: c) (s :: e)
  | non {s c e} : Has c e → Has (none :: c) (s :: e)
theorem Has.get : ∀ {c : Ce} {e : En}, Has c e → ∀ {i : Nat} {s : Sl}, c[i]? = some (some s) → e[i]? = some s
  | _, _, .nil, i, s, h => by simp at h
  | _, _, .som k, 0, s, h => by simp at h ⊢; exact h
  | _, _, .non k, 0, s, h => by simp at h
  | _, _, .som k, i + 1, s, h => by simp at h ⊢; exact k.get h
  | _, _, .non k, i + 1, s, h => by simp at h ⊢; exact k.get h
theorem Has.set : ∀ {c : Ce} {e : En}, Has c e → ∀ (i : Nat) (s : Sl), Has (c.set i (some s)) (e.set i s)
  | _, _, .nil, i, s => .nil
  | _, _, .som k, 0, s => .som k
  | _, _, .non k, 0, s => .som k
  | _, _, .som k, i + 1, s => .som (k.set i s)
  | _, _, .non k, i + 1, s => .non (k.set i s)
theorem Has.unset : ∀ {c : Ce} {e : En}, Has c e → ∀ (i : Nat) (s : Sl), Has (c.set i none) (e.set i s)
  | _, _, .nil, i, s => .nil
  | _, _, .som k, 0, s => .non k
  | _, _, .non k, 0, s => .non k
  | _, _, .som k, i + 1, s => .som (k.unset i s)
  | _, _, .non k, i + 1, s => .non (k.unset i s)
/-- some of it forgotten -/
def msk : List Bool → Ce → Ce
  | true :: b, x :: c => x :: msk b c
  | false :: b, _ :: c => none :: msk b c
  | _, c => c
theorem Has.msk : ∀ (b : List Bool) {c : Ce} {e : En}, Has c e → Has (BW.msk b c) e
  | [], _, _, h => by unfold BW.msk; exact h
  | true :: _, _, _, .nil => by unfold BW.msk; exact .nil
  | false :: _, _, _, .nil => by unfold BW.msk; exact .nil
  | true :: b, _, _, .som k => .som (k.msk b)
  | true :: b, _, _, .non k => .non (k.msk b)
  | false :: b, _, _, .som k => .non (k.msk b)
  | false :: b, _, _, .non k => .non (k.msk b)
def wipeC (c : Ce) : List Nat → Ce
  | [] => c
  | v :: vs => (wipeC c vs).set v none
theorem Has.wipe {c : Ce} {e : En} (h : Has c e) : ∀ (vs : List Nat), Has (wipeC c vs) (wipeE e vs)
  | [] => h
  | v :: vs => (h.wipe vs).unset v .no

/-! ### values of types, as data -/
structure W where
  many : Int
  ties : List (Int × Int)
  deriving DecidableEq
structure Sq (α : Type) where
  tp : Bool
  l : List α
  deriving DecidableEq
section
variable {α β γ δ ε : Type}
abbrev eI (i : Int) : D := .int i
abbrev eB (b : Bool) : D := .bl b
abbrev eZ (z : Str) : D := .str z
abbrev eN (_ : Unit) : D := .non
abbrev eD (d : D) : D := d
abbrev eL (e : α → D) (l : List α) : D := .lst (l.map e)
abbrev eT (e : α → D) (l : List α) : D := .tup (l.map e)
abbrev eR (l : List Int) : D := .scr l
abbrev eP (e : α → D) (f : β → D) (p : α × β) : D := .tup [e p.1, f p.2]
abbrev eP3 (e : α → D) (f : β → D) (g : γ → D) (p : α × β × γ) : D := .tup [e p.1, f p.2.1, g p.2.2]
abbrev eP4 (e : α → D) (f : β → D) (g : γ → D) (h : δ → D) (p : α × β × γ × δ) : D := .tup [e p.1, f p.2.1, g p.2.2.1, h p.2.2.2]
abbrev eW (w : W) : D := webO w.many w.ties
abbrev eX (k : Nat) : D := .exc k []
def eO (e : α → D) : Option α → D
  | none => .non
  | some a => e a
def eQ (e : α → D) (s : Sq α) : D := cond s.tp (.tup (s.l.map e)) (.lst (s.l.map e))
end

/-! ### what a function keeps -/
section
variable {α β τ τ' : Type}
/-- x is r, told as data; nothing is said where r tells nothing -/
def RefR (x : R D) (r : R τ) (e : τ → D) : Prop := match r with
  | .ok d => x = .ok (e d)
  | .er k p => x = .er k p
  | .no => True
def R.map (f : α → β) : R α → R β
  | .ok a => .ok (f a)
  | .er c p => .er c p
  | .no => .no
@[simp] theorem map_ok_ (f : α → β) (a : α) : (R.ok a).map f = .ok (f a) := id rfl
@[simp] theorem map_er_ (f : α → β) (c p) : (R.er c p).map f = .er c p := id rfl
@[simp] theorem bind_no_ (f : α → R β) : (R.no).bind f = .no := id rfl
theorem refR_bind {x : R D} {r : R α} {e1 : α → D} {k : D → R D} {t : α → R τ} {e : τ → D} (h : RefR x r e1) (hk : ∀ a, RefR (k (e1 a)) (t a) e) : RefR (x.bind k) (r.bind t) e := by
  cases r with
  | ok a =>
    have h : x = .ok (e1 a) := h
    rw [h]; exact hk a
  | er c p =>
    have h : x = .er c p := h
    rw [h]; exact rfl
  | no => trivial
theorem refR_p {x : R D} {a : α} {e1 : α → D} {k : D → R D} {t : R τ} {e : τ → D} (h : RefR x (.ok a) e1) (hk : RefR (k (e1 a)) t e) : RefR (x.bind k) t e := by
  have h : x = .ok (e1 a) := h
  rw [h]; exact hk
theorem refR_co {x : R D} {r : R α} {e1 : α → D} {e : β → D} (co : α → β) (h : RefR x r e1) (hc : ∀ a, e (co a) = e1 a) : RefR x (r.map co) e := by
  cases r with
  | ok a => exact (show x = .ok (e1 a) from h).trans (by rw [← hc a])
  | er c p => exact h
  | no => trivial
end
section
variable {α β γ δ τ τ' : Type} {c c' : Ce}
def EvE (c : Ce) (f : F) (r : R τ) (e : τ → D) : Prop := ∀ env, Has c env → RefR (f env) r e
def EvA (c : Ce) (fs : FA) (e : τ → D) (m : List D → R D) (r : R τ) : Prop := ∀ env, Has c env → RefR ((fs env).bind m) r e
def EvO (c : Ce) (f : FO) (r : R (Option Int)) : Prop := ∀ env, Has c env → match r with
  | .ok d => f env = .ok d
  | .er k p => f env = .er k p
  | .no => True
def EvT (c : Ce) (t : FT) (d : D) (c' : Ce) : Prop := ∀ env, Has c env → ∃ e', t d env = .ok e' ∧ Has c' e'
def EvTs (c : Ce) (t : List D → En → R En) (d : List D) (c' : Ce) : Prop := ∀ env, Has c env → ∃ e', t d env = .ok e' ∧ Has c' e'
/-! names and constants -/
theorem ev_I {i : Nat} (e : α → D) (x : α) (h : c[i]? = some (some (.im (e x))) := by rfl) : EvE c (fI i) (.ok x) e := fun env H => by
  show fI i env = _
  unfold fI
  rw [H.get h]
theorem ev_L {i : Nat} (e : α → D) (x : α) (h : c[i]? = some (some (.im (e x))) := by rfl) : EvE c (fL i) (.ok x) e := fun env H => by
  show fL i env = _
  unfold fL
  rw [H.get h]
theorem ev_Lm {i : Nat} (e : α → D) (x : List α) (h : c[i]? = some (some (.mu (x.map e))) := by rfl) : EvE c (fL i) (.ok x) (eL e) := fun env H => by
  show fL i env = _
  unfold fL
  rw [H.get h]
theorem ev_V {i : Nat} (e : α → D) (x : List α) (h : c[i]? = some (some (.im (.lst (x.map e)))) := by rfl) : EvE c (fV i) (.ok x) (eL e) := fun env H => by
  show fV i env = _
  unfold fV
  rw [H.get h]
theorem ev_Vm {i : Nat} (e : α → D) (x : List α) (h : c[i]? = some (some (.mu (x.map e))) := by rfl) : EvE c (fV i) (.ok x) (eL e) := fun env H => by
  show fV i env = _
  unfold fV
  rw [H.get h]
theorem ev_C {d : D} (e : α → D) (x : α) (h : d = e x := by rfl) : EvE c (fC d) (.ok x) e := fun env H => by rw [h]; exact rfl
/-! operations -/
variable {f a b t : F} {e1 : α → D} {e2 : β → D} {e : τ → D}
theorem ev_co {r : R α} {e : β → D} (co : α → β) (h : EvE c f r e1) (hc : ∀ x, e (co x) = e1 x := by intro; rfl) : EvE c f (r.map co) e := fun env H => refR_co co (h env H) hc
theorem ev_cop {x : α} {e : β → D} (y : β) (h : EvE c f (.ok x) e1) (hc : e y = e1 x := by rfl) : EvE c f (.ok y) e := fun env H => by
  have := h env H
  show f env = .ok (e y)
  rw [hc]; exact this
theorem ev1p {g : D → R D} {x : α} {r : R τ} (h : EvE c a (.ok x) e1) (k : RefR (g (e1 x)) r e) : EvE c (f1 g a) r e := fun env H => refR_p (h env H) k
theorem ev1b {g : D → R D} {ra : R α} {r : α → R τ} (h : EvE c a ra e1) (k : ∀ x, RefR (g (e1 x)) (r x) e) : EvE c (f1 g a) (ra.bind r) e := fun env H => refR_bind (h env H) k
theorem ev2pp {g : D → D → R D} {x : α} {y : β} {r : R τ} (h1 : EvE c a (.ok x) e1) (h2 : EvE c b (.ok y) e2) (k : RefR (g (e1 x) (e2 y)) r e) : EvE c (f2 g a b) r e := fun env H => refR_p (h1 env H) (refR_p (h2 env H) k)
theorem ev2pb {g : D → D → R D} {x : α} {rb : R β} {r : β → R τ} (h1 : EvE c a (.ok x) e1) (h2 : EvE c b rb e2) (k : ∀ y, RefR (g (e1 x) (e2 y)) (r y) e) : EvE c (f2 g a b) (rb.bind r) e := fun env H => refR_p (h1 env H) (refR_bind (h2 env H) k)
theorem ev2bp {g : D → D → R D} {ra : R α} {y : β} {r : α → R τ} (h1 : EvE c a ra e1) (h2 : EvE c b (.ok y) e2) (k : ∀ x, RefR (g (e1 x) (e2 y)) (r x) e) : EvE c (f2 g a b) (ra.bind r) e := fun env H => refR_bind (h1 env H) fun x => refR_p (h2 env H) (k x)
theorem ev2bb {g : D → D → R D} {ra : R α} {rb : R β} {r : α → β → R τ} (h1 : EvE c a ra e1) (h2 : EvE c b rb e2) (k : ∀ x y, RefR (g (e1 x) (e2 y)) (r x y) e) : EvE c (f2 g a b) (ra.bind fun x => rb.bind fun y => r x y) e := fun env H => refR_bind (h1 env H) fun x => refR_bind (h2 env H) (k x)
theorem ev_not {x : Bool} (h : EvE c a (.ok x) eB) : EvE c (fNot a) (.ok (!x)) eB := fun env H => refR_p (h env H) rfl
theorem ev_notb {r : R Bool} (h : EvE c a r eB) : EvE c (fNot a) (r.map (!·)) eB := fun env H => by
  have k := h env H
  cases r with
  | ok x => exact refR_p k rfl
  | er n p =>
    have k : a env = .er n p := k
    show (a env).bind notD = _
    rw [k]; rfl
  | no => trivial
theorem ev_Ls {e : α → D} {r : R (List α)} (h : EvE c f r (eL e)) : EvE c (fLs f) r (eL e) := fun env H => by
  have k := h env H
  cases r with
  | ok x => exact refR_p (e1 := eL e) (k := lsD) k rfl
  | er n p =>
    have k : f env = .er n p := k
    show (f env).bind lsD = _
    rw [k]; rfl
  | no => trivial
/-- a value whose kind is looked at -/
theorem ev_tst {g : D → R D} {r : R τ} (h : EvE c f r e) (hg : ∀ x, g (e x) = .ok (e x)) : EvE c (f1 g f) r e := fun env H => by
  have k := h env H
  cases r with
  | ok x => exact refR_p (e1 := e) (k := g) k (hg x)
  | er n p =>
    have k : f env = .er n p := k
    show (f env).bind g = _
    rw [k]; rfl
  | no => trivial
theorem ref_cond {x y : R D} {r s : R τ} (k : Bool) (h1 : k = true → RefR x r e) (h2 : k = false → RefR y s e) : RefR (cond k x y) (cond k r s) e := by
  cases k
  · exact h2 rfl
  · exact h1 rfl
theorem ev_if {k : Bool} {r s : R τ} (ht : EvE c t (.ok k) eB) (h1 : EvE c a r e) (h2 : EvE c b s e) : EvE c (fIf t a b) (cond k r s) e := fun env H => refR_p (ht env H) (ref_cond k (fun _ => h1 env H) fun _ => h2 env H)
theorem ev_ifb {k : R Bool} {r s : R τ} (ht : EvE c t k eB) (h1 : EvE c a r e) (h2 : EvE c b s e) : EvE c (fIf t a b) (k.bind fun k => cond k r s) e := fun env H => refR_bind (ht env H) fun k => ref_cond k (fun _ => h1 env H) fun _ => h2 env H
theorem ev_ifp {k : Bool} {r s : τ} (ht : EvE c t (.ok k) eB) (h1 : EvE c a (.ok r) e) (h2 : EvE c b (.ok s) e) : EvE c (fIf t a b) (.ok (cond k r s)) e := by
  have := ev_if ht h1 h2
  cases k <;> exact this
theorem blR_ref {x : R D} {r : R Bool} (h : RefR x r eB) : RefR (x.bind blR) r eB := by
  cases r with
  | ok b => exact refR_p (e1 := eB) (k := blR) h rfl
  | er n p =>
    have h : x = .er n p := h
    show x.bind blR = _
    rw [h]; rfl
  | no => trivial
theorem ev_and {k : Bool} {r : R Bool} (h1 : EvE c a (.ok k) eB) (h2 : EvE c b r eB) : EvE c (fAnd a b) (cond k r (.ok false)) eB := fun env H => refR_p (h1 env H) (ref_cond k (fun _ => blR_ref (h2 env H)) fun _ => rfl)
theorem ev_andb {k : R Bool} {r : R Bool} (h1 : EvE c a k eB) (h2 : EvE c b r eB) : EvE c (fAnd a b) (k.bind fun k => cond k r (.ok false)) eB := fun env H => refR_bind (h1 env H) fun k => ref_cond k (fun _ => blR_ref (h2 env H)) fun _ => rfl
theorem ev_andp {k l : Bool} (h1 : EvE c a (.ok k) eB) (h2 : EvE c b (.ok l) eB) : EvE c (fAnd a b) (.ok (k && l)) eB := by
  have := ev_and h1 h2
  cases k <;> exact this
theorem ev_or {k : Bool} {r : R Bool} (h1 : EvE c a (.ok k) eB) (h2 : EvE c b r eB) : EvE c (fOr a b) (cond k (.ok true) r) eB := fun env H => refR_p (h1 env H) (ref_cond k (fun _ => rfl) fun _ => blR_ref (h2 env H))
theorem ev_orb {k : R Bool} {r : R Bool} (h1 : EvE c a k eB) (h2 : EvE c b r eB) : EvE c (fOr a b) (k.bind fun k => cond k (.ok true) r) eB := fun env H => refR_bind (h1 env H) fun k => ref_cond k (fun _ => rfl) fun _ => blR_ref (h2 env H)
theorem ev_orp {k l : Bool} (h1 : EvE c a (.ok k) eB) (h2 : EvE c b (.ok l) eB) : EvE c (fOr a b) (.ok (k || l)) eB := by
  have := ev_or h1 h2
  cases k <;> exact this
/-! arguments -/
variable {fs : FA} {m : List D → R D}
theorem eva_nil {r : R τ} (h : RefR (m []) r e) : EvA c aNil e m r := fun env H => h
theorem eva_p {x : α} {r : R τ} (h : EvE c a (.ok x) e1) (k : EvA c fs e (fun ds => m (e1 x :: ds)) r) : EvA c (aCons a fs) e m r := fun env H => by
  have h1 : a env = .ok (e1 x) := h env H
  have k := k env H
  unfold aCons
  rw [h1]
  show RefR (((fs env).bind fun y => .ok (e1 x :: y)).bind m) r e
  cases hf : fs env with
  | ok ds => rw [hf] at k; exact k
  | er n p => rw [hf] at k; exact k
  | no => rw [hf] at k; exact k
theorem eva_b {ra : R α} {r : α → R τ} (h : EvE c a ra e1) (k : ∀ x, EvA c fs e (fun ds => m (e1 x :: ds)) (r x)) : EvA c (aCons a fs) e m (ra.bind r) := by
  cases ra with
  | ok x => exact eva_p h (k x)
  | er n p =>
    intro env H
    have h1 : a env = .er n p := h env H
    unfold aCons
    rw [h1]
    exact rfl
  | no => exact fun env H => trivial
theorem ev_A {r : R τ} (h : EvA c fs e m r) : EvE c (fA m fs) r e := h
/-! slices -/
theorem evo_N : EvO c oN (.ok none) := fun env H => rfl
theorem evo_S {x : Int} (h : EvE c f (.ok x) eI) : EvO c (oS f) (.ok (some x)) := fun env H => by
  have h1 : f env = .ok (.int x) := h env H
  show oS f env = _
  unfold oS
  rw [h1]; rfl
theorem evo_Sb {r : R Int} (h : EvE c f r eI) : EvO c (oS f) (r.map some) := by
  cases r with
  | ok x => exact evo_S h
  | er n p =>
    intro env H
    have h1 : f env = .er n p := h env H
    show oS f env = _
    unfold oS
    rw [h1]; rfl
  | no => exact fun env H => trivial
variable {lo hi : FO}
theorem ev_slp {x : α} {l u : Option Int} {r : R τ} (h : EvE c f (.ok x) e1) (h1 : EvO c lo (.ok l)) (h2 : EvO c hi (.ok u)) (k : RefR (sliceD (e1 x) l u) r e) : EvE c (fSl f lo hi) r e := fun env H => by
  have a1 : f env = .ok (e1 x) := h env H
  have a2 : lo env = .ok l := h1 env H
  have a3 : hi env = .ok u := h2 env H
  unfold fSl
  rw [a1, a2, a3]
  exact k
theorem ev_slb {x : R α} {l u : R (Option Int)} {r : α → Option Int → Option Int → R τ} (h : EvE c f x e1) (h1 : EvO c lo l) (h2 : EvO c hi u) (k : ∀ x l u, RefR (sliceD (e1 x) l u) (r x l u) e) : EvE c (fSl f lo hi) (x.bind fun x => l.bind fun l => u.bind fun u => r x l u) e := fun env H => by
  unfold fSl
  refine refR_bind (h env H) fun x => ?_
  have h1 := h1 env H
  have h2 := h2 env H
  cases l with
  | ok l =>
    have h1 : lo env = .ok l := h1
    rw [h1]
    cases u with
    | ok u =>
      have h2 : hi env = .ok u := h2
      rw [h2]
      exact k x l u
    | er n p =>
      have h2 : hi env = .er n p := h2
      rw [h2]
      exact rfl
    | no => trivial
  | er n p =>
    have h1 : lo env = .er n p := h1
    rw [h1]
    exact rfl
  | no => trivial
/-! targets -/
theorem evt_N {i : Nat} {d : D} : EvT c (tN i) d (c.set i (some (.im d))) := fun env H => ⟨_, rfl, H.set i _⟩
theorem evts_nil : EvTs c tsNil [] c := fun env H => ⟨_, rfl, H⟩
theorem evts_cons {t : FT} {u : List D → En → R En} {d : D} {ds : List D} {c1 c2 : Ce} (h : EvT c t d c1) (k : EvTs c1 u ds c2) : EvTs c (tsCons t u) (d :: ds) c2 := fun env H => by
  obtain ⟨e1, h1, h2⟩ := h env H
  obtain ⟨e2, h3, h4⟩ := k e1 h2
  refine ⟨e2, ?_, h4⟩
  show ((t d env).bind fun e => u ds e) = _
  rw [h1]
  exact h3
theorem evt_T {n : Nat} {u : List D → En → R En} {ds : List D} (hn : ds.length = n := by rfl) (k : EvTs c u ds c') : EvT c (tT n u) (.tup ds) c' := fun env H => by
  obtain ⟨e1, h1, h2⟩ := k env H
  refine ⟨e1, ?_, h2⟩
  show (if ds.length = n then u ds env else .no) = _
  rw [if_pos hn]
  exact h1
/-! comprehensions -/
def lcT (tst : α → R Bool) (y : α → R β) : List α → R (List β)
  | [] => .ok []
  | a :: l => (tst a).bindQ fun k => cond k ((y a).bindQ fun b => (lcT tst y l).bindQ fun r => .ok (b :: r)) (lcT tst y l)
@[irreducible] def fLcT (tst : α → R Bool) (y : α → R β) (l : List α) : R (List β) := if l.length ≤ 16777216 then (lcT tst y l).bindQ .ok else .no
theorem bindQ_ref {x : R D} {r : R α} {k : D → R D} {t : α → R τ} (h : RefR x r e1) (hk : ∀ a, RefR (k (e1 a)) (t a) e) : RefR (x.bindQ k) (r.bindQ t) e := by
  cases r with
  | ok a =>
    have h : x = .ok (e1 a) := h
    rw [h]; exact hk a
  | er c p => trivial
  | no => trivial
theorem lc_ref {tg : FT} {test elt : F} {env : En} (ea : α → D) (eb : β → D) (tst : α → R Bool) (y : α → R β) (h : ∀ x, ∃ e', tg (ea x) env = .ok e' ∧ RefR (test e') (tst x) eB ∧ RefR (elt e') (y x) eb) :
    ∀ l : List α, match lcT tst y l with
      | .ok r => lcF tg test elt env (l.map ea) = .ok (r.map eb)
      | _ => True
  | [] => rfl
  | x :: l => by
    have ih := lc_ref ea eb tst y h l
    obtain ⟨e', h1, h2, h3⟩ := h x
    unfold lcT
    have E : lcF tg test elt env ((x :: l).map ea) = (tg (ea x) env).bindQ fun e => (test e).bindQ fun
      | .bl c => cond c ((elt e).bindQ fun y => (lcF tg test elt env (l.map ea)).bindQ fun r => .ok (y :: r)) (lcF tg test elt env (l.map ea))
      | _ => .no := rfl
    rw [E, h1]
    cases ht : tst x with
    | er n p => trivial
    | no => trivial
    | ok k =>
      rw [ht] at h2
      have h2 : test e' = .ok (.bl k) := h2
      cases k with
      | false =>
        have e1 : ((R.ok e' : R En).bindQ fun e => (test e).bindQ fun
          | .bl c => cond c ((elt e).bindQ fun y => (lcF tg test elt env (l.map ea)).bindQ fun r => .ok (y :: r)) (lcF tg test elt env (l.map ea))
          | _ => .no) = lcF tg test elt env (l.map ea) := by
          show ((test e').bindQ fun
          | .bl c => cond c ((elt e').bindQ fun y => (lcF tg test elt env (l.map ea)).bindQ fun r => .ok (y :: r)) (lcF tg test elt env (l.map ea))
          | _ => .no) = _
          rw [h2]; rfl
        rw [e1]
        exact ih
      | true =>
        have e1 : ((R.ok e' : R En).bindQ fun e => (test e).bindQ fun
          | .bl c => cond c ((elt e).bindQ fun y => (lcF tg test elt env (l.map ea)).bindQ fun r => .ok (y :: r)) (lcF tg test elt env (l.map ea))
          | _ => .no) = ((elt e').bindQ fun y => (lcF tg test elt env (l.map ea)).bindQ fun r => .ok (y :: r)) := by
          show ((test e').bindQ fun
          | .bl c => cond c ((elt e').bindQ fun y => (lcF tg test elt env (l.map ea)).bindQ fun r => .ok (y :: r)) (lcF tg test elt env (l.map ea))
          | _ => .no) = _
          rw [h2]; rfl
        rw [e1]
        show match (y x).bindQ fun b => (lcT tst y l).bindQ fun r => .ok (b :: r) with
          | .ok r => ((elt e').bindQ fun y => (lcF tg test elt env (l.map ea)).bindQ fun r => .ok (y :: r)) = .ok (r.map eb)
          | _ => True
        cases hy : y x with
        | er n p => trivial
        | no => trivial
        | ok b =>
          rw [hy] at h3
          have h3 : elt e' = .ok (eb b) := h3
          rw [h3]
          cases hl : lcT tst y l with
          | er n p => trivial
          | no => trivial
          | ok r =>
            rw [hl] at ih
            have ih : lcF tg test elt env (l.map ea) = .ok (r.map eb) := ih
            rw [ih]
            exact rfl
theorem ev_lc {items test elt : F} {tg : FT} {own : List Nat} {r : R (List α)} {ea : α → D} {eb : β → D} {tst : α → R Bool} {y : α → R β} (hi : EvE c items r (eL ea)) (h : ∀ x, ∃ c', EvT (wipeC c own) tg (ea x) c' ∧ EvE c' test (tst x) eB ∧ EvE c' elt (y x) eb) : EvE c (fLc items tg test elt own) (r.bind fun l => fLcT tst y l) (eL eb) := fun env H => by
  unfold fLc
  refine refR_bind (hi env H) fun l => ?_
  show RefR (if (l.map ea).length ≤ 16777216 then (lcF tg test elt (wipeE env own) (l.map ea)).bindQ fun r => .ok (.lst r) else .no) _ _
  rw [List.length_map]
  unfold fLcT
  by_cases hz : l.length ≤ 16777216
  · rw [if_pos hz, if_pos hz]
    have k := lc_ref (tg := tg) (test := test) (elt := elt) (env := wipeE env own) ea eb tst y (fun x => by
      obtain ⟨c', h1, h2, h3⟩ := h x
      obtain ⟨e', h4, h5⟩ := h1 _ (H.wipe own)
      exact ⟨e', h4, h2 e' h5, h3 e' h5⟩) l
    cases hl : lcT tst y l with
    | ok r =>
      rw [hl] at k
      have k : lcF tg test elt (wipeE env own) (l.map ea) = .ok (r.map eb) := k
      rw [k]
      exact rfl
    | er n p => trivial
    | no => trivial
  · rw [if_neg hz, if_neg hz]
    trivial
theorem ev_lcp {items test elt : F} {tg : FT} {own : List Nat} {l : List α} {ea : α → D} {eb : β → D} {tst : α → R Bool} {y : α → R β} (hi : EvE c items (.ok l) (eL ea)) (h : ∀ x, ∃ c', EvT (wipeC c own) tg (ea x) c' ∧ EvE c' test (tst x) eB ∧ EvE c' elt (y x) eb) : EvE c (fLc items tg test elt own) (fLcT tst y l) (eL eb) := ev_lc hi h
end
end BW
/-! BTy2: typed statements. -/
namespace BW
open PySem PySem.Spec PyProof.Rows L2
theorem eraseIdx_map' {α β : Type} (f : α → β) : ∀ (l : List α) (k : Nat), (l.map f).eraseIdx k = (l.eraseIdx k).map f
  | [], _ => rfl
  | _ :: _, 0 => rfl
  | a :: l, k + 1 => by
    show f a :: (l.map f).eraseIdx k = f a :: (l.eraseIdx k).map f
    rw [eraseIdx_map' f l k]
inductive TR (Λ Γ ρ : Type) where
  | nx (g : Γ) | bk (l : Λ) | ct (l : Λ) | rt (d : ρ) | er (c : Nat) (p : List D) | no
section
variable {Λ Γ Δ ρ α β τ : Type}
def TR.ob (r : R α) (k : α → TR Λ Γ ρ) : TR Λ Γ ρ := match r with
  | .ok a => k a
  | .er c p => .er c p
  | .no => .no
@[simp] theorem ob_ok (a : α) (k : α → TR Λ Γ ρ) : TR.ob (.ok a) k = k a := id rfl
@[simp] theorem ob_er (c p) (k : α → TR Λ Γ ρ) : TR.ob (.er c p) k = .er c p := id rfl
def TR.sq (t : TR Λ Δ ρ) (k : Δ → TR Λ Γ ρ) : TR Λ Γ ρ := match t with
  | .nx g => k g
  | .bk l => .bk l
  | .ct l => .ct l
  | .rt d => .rt d
  | .er c p => .er c p
  | .no => .no
@[simp] theorem tsq_nx (a : Δ) (k : Δ → TR Λ Γ ρ) : TR.sq (.nx a) k = k a := id rfl
@[simp] theorem tsq_bk (a : Λ) (k : Δ → TR Λ Γ ρ) : TR.sq (.bk a) k = .bk a := id rfl
@[simp] theorem tsq_ct (a : Λ) (k : Δ → TR Λ Γ ρ) : TR.sq (.ct a) k = .ct a := id rfl
@[simp] theorem tsq_rt (a : ρ) (k : Δ → TR Λ Γ ρ) : TR.sq (.rt a) k = .rt a := id rfl
@[simp] theorem tsq_er (c p) (k : Δ → TR Λ Γ ρ) : TR.sq (.er c p) k = .er c p := id rfl
/-- what does not end by itself -/
def TR.up (t : TR Λ Empty ρ) : TR Λ Γ ρ := match t with
  | .nx g => nomatch g
  | .bk l => .bk l
  | .ct l => .ct l
  | .rt d => .rt d
  | .er c p => .er c p
  | .no => .no
@[simp] theorem up_bk (a : Λ) : (TR.up (.bk a) : TR Λ Γ ρ) = .bk a := id rfl
@[simp] theorem up_ct (a : Λ) : (TR.up (.ct a) : TR Λ Γ ρ) = .ct a := id rfl
@[simp] theorem up_rt (a : ρ) : (TR.up (.rt a) : TR Λ Γ ρ) = .rt a := id rfl
@[simp] theorem up_er (c p) : (TR.up (.er c p) : TR Λ Γ ρ) = .er c p := id rfl
/-- a loop's way on -/
def forT (b : α → Γ → TR Γ Γ ρ) : List α → Γ → TR Λ Γ ρ
  | [], g => .nx g
  | a :: l, g => match b a g with
    | .nx g => forT b l g
    | .ct g => forT b l g
    | .bk g => .nx g
    | .rt d => .rt d
    | .er c p => .er c p
    | .no => .no
def whT (t : Γ → R Bool) (b : Γ → TR Γ Γ ρ) : Nat → Γ → TR Λ Γ ρ
  | 0, _ => .no
  | n + 1, g => TR.ob (t g) fun k => cond k (match b g with
    | .nx g => whT t b n g
    | .ct g => whT t b n g
    | .bk g => .nx g
    | .rt d => .rt d
    | .er c p => .er c p
    | .no => .no) (.nx g)
def TR.noE (t : TR Λ Γ ρ) : TR Λ Γ ρ := match t with
  | .er _ _ => .no
  | t => t
@[simp] theorem noE_nx (a : Γ) : (TR.noE (.nx a) : TR Λ Γ ρ) = .nx a := id rfl
@[simp] theorem noE_bk (a : Λ) : (TR.noE (.bk a) : TR Λ Γ ρ) = .bk a := id rfl
@[simp] theorem noE_ct (a : Λ) : (TR.noE (.ct a) : TR Λ Γ ρ) = .ct a := id rfl
@[simp] theorem noE_rt (a : ρ) : (TR.noE (.rt a) : TR Λ Γ ρ) = .rt a := id rfl
def TR.trP (p : List D) (t : TR Λ Γ ρ) : TR Λ Γ ρ := match p with
  | [] => t
  | _ => .no
def TR.trE (o : Option Bool) (c : Nat) (p : List D) (t : TR Λ Γ ρ) : TR Λ Γ ρ := match o with
  | some true => TR.trP p t.noE
  | some false => .er c p
  | none => .no
def TR.tr (t : TR Λ Γ ρ) (tb : List (Nat × Bool)) (s : Nat → TR Λ Γ ρ) : TR Λ Γ ρ := match t with
  | .er c p => TR.trE (tb.lookup c) c p (s c)
  | t => t
@[simp] theorem tr_er (c p tb) (k : Nat → TR Λ Γ ρ) : TR.tr (.er c p) tb k = TR.trE (tb.lookup c) c p (k c) := id rfl
@[simp] theorem trE_t (c) (t : TR Λ Γ ρ) : TR.trE (some true) c [] t = t.noE := id rfl
@[simp] theorem trE_f (c p) (t : TR Λ Γ ρ) : TR.trE (some false) c p t = .er c p := id rfl
@[simp] theorem tr_nx (a : Γ) (tb) (k : Nat → TR Λ Γ ρ) : TR.tr (.nx a) tb k = .nx a := id rfl
@[simp] theorem tr_bk (a : Λ) (tb) (k : Nat → TR Λ Γ ρ) : TR.tr (.bk a) tb k = .bk a := id rfl
@[simp] theorem tr_ct (a : Λ) (tb) (k : Nat → TR Λ Γ ρ) : TR.tr (.ct a) tb k = .ct a := id rfl
@[simp] theorem tr_rt (a : ρ) (tb) (k : Nat → TR Λ Γ ρ) : TR.tr (.rt a) tb k = .rt a := id rfl
def TR.out (t : TR Empty Γ ρ) (dflt : R ρ) : R ρ := match t with
  | .nx _ => dflt
  | .rt d => .ok d
  | .er c p => .er c p
  | _ => .no
@[simp] theorem out_nx (a : Γ) (r : R ρ) : TR.out (.nx a) r = r := id rfl
@[simp] theorem out_rt (a : ρ) (r : R ρ) : TR.out (.rt a : TR Empty Γ ρ) r = .ok a := id rfl
@[simp] theorem out_er (c p) (r : R ρ) : TR.out (.er c p : TR Empty Γ ρ) r = .er c p := id rfl

/-! ### what a statement keeps -/
def Sim (c : Ce) (g : G) (t : TR Λ Γ ρ) (out : Γ → Ce) (lo : Λ → Ce) (ke : En → Prop) (e : ρ → D) : Prop := ∀ env, Has c env → match t with
  | .nx x => ∃ e', g env = .nx e' ∧ Has (out x) e'
  | .bk x => ∃ e', g env = .bk e' ∧ Has (lo x) e'
  | .ct x => ∃ e', g env = .ct e' ∧ Has (lo x) e'
  | .rt d => g env = .rt (e d)
  | .er k p => ∃ e', g env = .er e' k p ∧ ke e'
  | .no => True
/-- what holds of the names at an error -/
def Kp (c : Ce) (ke : En → Prop) : Prop := ∀ env, Has c env → ke env
abbrev keT : En → Prop := fun _ => True
theorem kpT {c : Ce} : Kp c keT := fun _ _ => trivial
theorem kpM {c ck : Ce} (b : List Bool) (h : ck = msk b c := by rfl) : Kp c (Has ck) := fun env H => h ▸ H.msk b
variable {c c' : Ce} {g g1 g2 : G} {f : F} {out : Γ → Ce} {lo : Λ → Ce} {ke : En → Prop} {e : ρ → D} {e1 : α → D} {e2 : β → D}
theorem sim_last {t : TR Λ Γ ρ} (h : Sim c (gSeq g gNext) t out lo ke e) : Sim c g t out lo ke e := fun env H => by
  have k := h env H
  have E : gSeq g gNext env = g env := by
    unfold gSeq gNext
    cases g env <;> rfl
  rw [E] at k
  exact k
theorem sim_next {x : Γ} (b : List Bool) (h : out x = msk b c := by rfl) : Sim c gNext (.nx x) out lo ke e := fun env H => ⟨env, rfl, h ▸ H.msk b⟩
theorem sim_break {x : Λ} (b : List Bool) (h : lo x = msk b c := by rfl) : Sim c gBreak (.bk x) out lo ke e := fun env H => ⟨env, rfl, h ▸ H.msk b⟩
theorem sim_cont {x : Λ} (b : List Bool) (h : lo x = msk b c := by rfl) : Sim c gCont (.ct x) out lo ke e := fun env H => ⟨env, rfl, h ▸ H.msk b⟩
theorem sim_seq {out1 : Δ → Ce} {t1 : TR Λ Δ ρ} {t2 : Δ → TR Λ Γ ρ} (h1 : Sim c g1 t1 out1 lo ke e) (h2 : ∀ x, Sim (out1 x) g2 (t2 x) out lo ke e) : Sim c (gSeq g1 g2) (t1.sq t2) out lo ke e := fun env H => by
  have k := h1 env H
  unfold gSeq
  cases t1 with
  | nx x =>
    obtain ⟨e', a, b⟩ := k
    rw [a]
    exact h2 x e' b
  | bk x =>
    obtain ⟨e', a, b⟩ := k
    rw [a]
    exact ⟨e', rfl, b⟩
  | ct x =>
    obtain ⟨e', a, b⟩ := k
    rw [a]
    exact ⟨e', rfl, b⟩
  | rt d =>
    have k : g1 env = .rt (e d) := k
    rw [k]
    exact rfl
  | er n p =>
    obtain ⟨e', a, b⟩ := k
    rw [a]
    exact ⟨e', rfl, b⟩
  | no => trivial
/-- what does not end by itself ends a row of statements -/
theorem sim_end {out1 : Empty → Ce} {t1 : TR Λ Empty ρ} (h1 : Sim c g1 t1 out1 lo ke e) : Sim c (gSeq g1 g2) (t1.up : TR Λ Γ ρ) out lo ke e := fun env H => by
  have k := h1 env H
  unfold gSeq
  cases t1 with
  | nx x => exact nomatch x
  | bk x =>
    obtain ⟨e', a, b⟩ := k
    rw [a]
    exact ⟨e', rfl, b⟩
  | ct x =>
    obtain ⟨e', a, b⟩ := k
    rw [a]
    exact ⟨e', rfl, b⟩
  | rt d =>
    have k : g1 env = .rt (e d) := k
    rw [k]
    exact rfl
  | er n p =>
    obtain ⟨e', a, b⟩ := k
    rw [a]
    exact ⟨e', rfl, b⟩
  | no => trivial
theorem sim_up {out1 : Empty → Ce} {t1 : TR Λ Empty ρ} (h1 : Sim c g t1 out1 lo ke e) : Sim c g (t1.up : TR Λ Γ ρ) out lo ke e := sim_last (sim_end h1)
/-! the way of a value into a row of statements -/
/-- one statement over a value: where it goes on -/
theorem step_of {r : R α} {t : α → TR Λ Γ ρ} {F1 : F} {K : D → En → SR} {c1 : α → Ce} (hk : Kp c ke) (hg : ∀ env, g1 env = SR.of env (F1 env) fun d => K d env) (h : EvE c F1 r e1) (k : ∀ x env, Has c env → ∃ e', K (e1 x) env = .nx e' ∧ Has (c1 x) e') (h2 : ∀ x, Sim (c1 x) g2 (t x) out lo ke e) : Sim c (gSeq g1 g2) (TR.ob r t) out lo ke e := fun env H => by
  have q := h env H
  have E : gSeq g1 g2 env = SR.sq (SR.of env (F1 env) fun d => K d env) g2 := by show SR.sq (g1 env) g2 = _; rw [hg]
  rw [E]
  cases r with
  | ok x =>
    have q : F1 env = .ok (e1 x) := q
    rw [q]
    obtain ⟨e', a, b⟩ := k x env H
    have E2 : (SR.of env (R.ok (e1 x)) fun d => K d env) = K (e1 x) env := rfl
    rw [E2, a]
    exact h2 x e' b
  | er n p =>
    have q : F1 env = .er n p := q
    rw [q]
    exact ⟨env, rfl, hk env H⟩
  | no => trivial
theorem step_p {x : α} {t : TR Λ Γ ρ} {F1 : F} {K : D → En → SR} {c1 : Ce} (hg : ∀ env, g1 env = SR.of env (F1 env) fun d => K d env) (h : EvE c F1 (.ok x) e1) (k : ∀ env, Has c env → ∃ e', K (e1 x) env = .nx e' ∧ Has c1 e') (h2 : Sim c1 g2 t out lo ke e) : Sim c (gSeq g1 g2) t out lo ke e := fun env H => by
  have q : F1 env = .ok (e1 x) := h env H
  have E : gSeq g1 g2 env = SR.sq (SR.of env (F1 env) fun d => K d env) g2 := by show SR.sq (g1 env) g2 = _; rw [hg]
  rw [E, q]
  obtain ⟨e', a, b⟩ := k env H
  have E2 : (SR.of env (R.ok (e1 x)) fun d => K d env) = K (e1 x) env := rfl
  rw [E2, a]
  exact h2 e' b
theorem sim_set {i : Nat} {x : α} {t : TR Λ Γ ρ} (h : EvE c f (.ok x) e1) (k : Sim (c.set i (some (.im (e1 x)))) g t out lo ke e) : Sim c (gSeq (gSet i f) g) t out lo ke e :=
  step_p (K := fun d env => .nx (env.set i (.im d))) (fun _ => rfl) h (fun env H => ⟨_, rfl, H.set i _⟩) k
theorem sim_setb {i : Nat} {r : R α} {t : α → TR Λ Γ ρ} (hk : Kp c ke) (h : EvE c f r e1) (k : ∀ x, Sim (c.set i (some (.im (e1 x)))) g (t x) out lo ke e) : Sim c (gSeq (gSet i f) g) (TR.ob r t) out lo ke e :=
  step_of (K := fun d env => .nx (env.set i (.im d))) hk (fun _ => rfl) h (fun x env H => ⟨_, rfl, H.set i _⟩) k
theorem sim_setM {i : Nat} {x : List α} {t : TR Λ Γ ρ} (h : EvE c f (.ok x) (eL e1)) (k : Sim (c.set i (some (.mu (x.map e1)))) g t out lo ke e) : Sim c (gSeq (gSetM i f) g) t out lo ke e :=
  step_p (K := fun d env => match d with | .lst l => .nx (env.set i (.mu l)) | _ => .no) (fun _ => rfl) h (fun env H => ⟨_, rfl, H.set i _⟩) k
theorem sim_setMb {i : Nat} {r : R (List α)} {t : List α → TR Λ Γ ρ} (hk : Kp c ke) (h : EvE c f r (eL e1)) (k : ∀ x : List α, Sim (c.set i (some (.mu (x.map e1)))) g (t x) out lo ke e) : Sim c (gSeq (gSetM i f) g) (TR.ob r t) out lo ke e :=
  step_of (K := fun d env => match d with | .lst l => .nx (env.set i (.mu l)) | _ => .no) hk (fun _ => rfl) h (fun x env H => ⟨_, rfl, H.set i _⟩) k
theorem sim_drop {x : α} {t : TR Λ Γ ρ} (h : EvE c f (.ok x) e1) (k : Sim c g t out lo ke e) : Sim c (gSeq (gDrop f) g) t out lo ke e :=
  step_p (K := fun d env => .nx env) (fun _ => rfl) h (fun env H => ⟨_, rfl, H⟩) k
theorem sim_dropb {r : R α} {t : α → TR Λ Γ ρ} (hk : Kp c ke) (h : EvE c f r e1) (k : ∀ x, Sim c g (t x) out lo ke e) : Sim c (gSeq (gDrop f) g) (TR.ob r t) out lo ke e :=
  step_of (K := fun d env => .nx env) hk (fun _ => rfl) h (fun x env H => ⟨_, rfl, H⟩) k
theorem sim_unp {tg : FT} {x : α} {c1 : Ce} {t : TR Λ Γ ρ} (h : EvE c f (.ok x) e1) (ht : EvT c tg (e1 x) c1) (k : Sim c1 g t out lo ke e) : Sim c (gSeq (gUnp tg f) g) t out lo ke e :=
  step_p (K := fun d env => match tg d env with | .ok e => .nx e | _ => .no) (fun _ => rfl) h (fun env H => by
    obtain ⟨e', a, b⟩ := ht env H
    exact ⟨e', by rw [a], b⟩) k
theorem sim_unpb {tg : FT} {r : R α} {c1 : α → Ce} {t : α → TR Λ Γ ρ} (hk : Kp c ke) (h : EvE c f r e1) (ht : ∀ x, EvT c tg (e1 x) (c1 x)) (k : ∀ x, Sim (c1 x) g (t x) out lo ke e) : Sim c (gSeq (gUnp tg f) g) (TR.ob r t) out lo ke e :=
  step_of (K := fun d env => match tg d env with | .ok e => .nx e | _ => .no) hk (fun _ => rfl) h (fun x env H => by
    obtain ⟨e', a, b⟩ := ht x env H
    exact ⟨e', by rw [a], b⟩) k
theorem sim_ret {x : ρ} (h : EvE c f (.ok x) e) : Sim c (gRet f) (.rt x : TR Λ Γ ρ) out lo ke e := fun env H => by
  have q : f env = .ok (e x) := h env H
  show gRet f env = _
  unfold gRet
  rw [q]; rfl
theorem sim_retb {r : R ρ} (hk : Kp c ke) (h : EvE c f r e) : Sim c (gRet f) (TR.ob r .rt : TR Λ Γ ρ) out lo ke e := fun env H => by
  have q := h env H
  cases r with
  | ok x =>
    have q : f env = .ok (e x) := q
    show gRet f env = _
    unfold gRet
    rw [q]; rfl
  | er n p =>
    have q : f env = .er n p := q
    refine ⟨env, ?_, hk env H⟩
    unfold gRet
    rw [q]; rfl
  | no => trivial
theorem sim_retM {i : Nat} {x : ρ} {l : List D} (h : c[i]? = some (some (.mu l)) := by rfl) (he : e x = .lst l := by rfl) : Sim c (gRetM i) (.rt x : TR Λ Γ ρ) out lo ke e := fun env H => by
  have q := H.get h
  show gRetM i env = _
  unfold gRetM
  rw [q, he]
theorem sim_retN {x : ρ} (he : e x = .non := by rfl) : Sim c gRetN (.rt x : TR Λ Γ ρ) out lo ke e := fun env H => by
  show gRetN env = _
  rw [he]; rfl
theorem sim_raise {k : Nat} (hk : Kp c ke) : Sim c (gRaise k) (.er k [] : TR Λ Γ ρ) out lo ke e := fun env H => ⟨env, rfl, hk env H⟩
theorem sim_if {t : F} {a b : G} {k : Bool} {r s : TR Λ Γ ρ} (ht : EvE c t (.ok k) eB) (h1 : Sim c a r out lo ke e) (h2 : Sim c b s out lo ke e) : Sim c (gIf t a b) (cond k r s) out lo ke e := fun env H => by
  have q : t env = .ok (.bl k) := ht env H
  have E : gIf t a b env = cond k (a env) (b env) := gIf_e q
  rw [E]
  cases k
  · exact h2 env H
  · exact h1 env H
theorem sim_ifb {t : F} {a b : G} {k : R Bool} {r s : TR Λ Γ ρ} (hk : Kp c ke) (ht : EvE c t k eB) (h1 : Sim c a r out lo ke e) (h2 : Sim c b s out lo ke e) : Sim c (gIf t a b) (TR.ob k fun k => cond k r s) out lo ke e := by
  cases k with
  | ok k => exact sim_if ht h1 h2
  | er n p =>
    intro env H
    have q : t env = .er n p := ht env H
    refine ⟨env, ?_, hk env H⟩
    unfold gIf
    rw [q]; rfl
  | no => exact fun _ _ => trivial
/-- .. of which the one does not end by itself -/
theorem sim_guard {t : F} {a : G} {k : Bool} {out1 : Empty → Ce} {r : TR Λ Empty ρ} {s : TR Λ Γ ρ} (ht : EvE c t (.ok k) eB) (h1 : Sim c a r out1 lo ke e) (h2 : Sim c g s out lo ke e) : Sim c (gSeq (gIf t a gNext) g) (cond k r.up s) out lo ke e := fun env H => by
  have q : t env = .ok (.bl k) := ht env H
  have E : gIf t a gNext env = cond k (a env) (.nx env) := gIf_e q
  cases k
  · have E2 : gSeq (gIf t a gNext) g env = g env := by unfold gSeq; rw [E]; rfl
    rw [E2]
    exact h2 env H
  · have E2 : gSeq (gIf t a gNext) g env = gSeq a g env := by unfold gSeq; rw [E]; rfl
    rw [E2]
    exact sim_end h1 env H
theorem sim_guardb {t : F} {a : G} {k : R Bool} {out1 : Empty → Ce} {r : TR Λ Empty ρ} {s : TR Λ Γ ρ} (hk : Kp c ke) (ht : EvE c t k eB) (h1 : Sim c a r out1 lo ke e) (h2 : Sim c g s out lo ke e) : Sim c (gSeq (gIf t a gNext) g) (TR.ob k fun k => cond k r.up s) out lo ke e := by
  cases k with
  | ok k => exact sim_guard ht h1 h2
  | er n p =>
    intro env H
    have q : t env = .er n p := ht env H
    refine ⟨env, ?_, hk env H⟩
    unfold gSeq gIf
    rw [q]; rfl
  | no => exact fun _ _ => trivial
/-! lists that change -/
theorem sim_frz {i : Nat} {l : List D} {t : TR Λ Γ ρ} (h : c[i]? = some (some (.mu l)) := by rfl) (k : Sim (c.set i (some (.im (.lst l)))) g t out lo ke e) : Sim c (gSeq (gFrz i) g) t out lo ke e := fun env H => by
  have q := H.get h
  have E : gSeq (gFrz i) g env = g (env.set i (.im (.lst l))) := by unfold gSeq; rw [gFrz_at q]
  rw [E]
  exact k _ (H.set i _)
theorem sim_frzI {i : Nat} {d : D} {t : TR Λ Γ ρ} (h : c[i]? = some (some (.im d)) := by rfl) (k : Sim c g t out lo ke e) : Sim c (gSeq (gFrz i) g) t out lo ke e := fun env H => by
  have q := H.get h
  have E : gSeq (gFrz i) g env = g env := by
    unfold gSeq
    rw [gFrz_no (fun l h2 => by rw [q] at h2; cases h2)]
  rw [E]
  exact k _ H
theorem sim_frzN {i : Nat} {t : TR Λ Γ ρ} (h : c = c.set i none := by rfl) (k : Sim c g t out lo ke e) : Sim c (gSeq (gFrz i) g) t out lo ke e := fun env H => by
  by_cases q : ∃ l, env[i]? = some (.mu l)
  · obtain ⟨l, q⟩ := q
    have E : gSeq (gFrz i) g env = g (env.set i (.im (.lst l))) := by unfold gSeq; rw [gFrz_at q]
    rw [E]
    exact k _ (h ▸ H.unset i _)
  · have E : gSeq (gFrz i) g env = g env := by
      unfold gSeq
      rw [gFrz_no (fun l h2 => q ⟨l, h2⟩)]
    rw [E]
    exact k _ H
def RefO (x : Option (List D)) (r : R (List α)) (e : α → D) : Prop := match r with
  | .ok l => x = some (l.map e)
  | .er _ _ => False
  | .no => True
theorem sim_mut {i : Nat} {f : F} {x : α} {l : List β} {K : List D → D → Option (List D)} {r : R (List β)} {t : List β → TR Λ Γ ρ} (hc : c[i]? = some (some (.mu (l.map e2))) := by rfl) (h : EvE c f (.ok x) e1) (hr : RefO (K (l.map e2) (e1 x)) r e2) (k : ∀ m : List β, Sim (c.set i (some (.mu (m.map e2)))) g (t m) out lo ke e) : Sim c (gSeq (gMut i f K) g) (TR.ob r t) out lo ke e := by
  cases r with
  | er n p => exact hr.elim
  | no => exact fun _ _ => trivial
  | ok m =>
    have hr : K (l.map e2) (e1 x) = some (m.map e2) := hr
    refine fun env H => ?_
    have q1 := H.get hc
    have q2 : f env = .ok (e1 x) := h env H
    have E : gMut i f K env = .nx (env.set i (.mu (m.map e2))) := by
      unfold gMut
      rw [q1, q2]
      show (match K (l.map e2) (e1 x) with | some m => SR.nx (env.set i (.mu m)) | none => .no) = _
      rw [hr]
    have E2 : gSeq (gMut i f K) g env = g (env.set i (.mu (m.map e2))) := by unfold gSeq; rw [E]
    rw [E2]
    exact k m _ (H.set i _)
theorem sim_mutb {i : Nat} {f : F} {rx : R α} {l : List β} {K : List D → D → Option (List D)} {r : α → R (List β)} {t : List β → TR Λ Γ ρ} (hk : Kp c ke) (hc : c[i]? = some (some (.mu (l.map e2))) := by rfl) (h : EvE c f rx e1) (hr : ∀ x, RefO (K (l.map e2) (e1 x)) (r x) e2) (k : ∀ m : List β, Sim (c.set i (some (.mu (m.map e2)))) g (t m) out lo ke e) : Sim c (gSeq (gMut i f K) g) (TR.ob (rx.bind r) t) out lo ke e := by
  cases rx with
  | ok x => exact sim_mut hc h (hr x) k
  | er n p =>
    intro env H
    have q1 := H.get hc
    have q2 : f env = .er n p := h env H
    refine ⟨env, ?_, hk env H⟩
    have E : gMut i f K env = .er env n p := by unfold gMut; rw [q1, q2]; rfl
    unfold gSeq; rw [E]
  | no => exact fun _ _ => trivial
theorem sim_mut0 {i : Nat} {l : List β} {K : List D → Option (List D)} {r : R (List β)} {t : List β → TR Λ Γ ρ} (hc : c[i]? = some (some (.mu (l.map e2))) := by rfl) (hr : RefO (K (l.map e2)) r e2) (k : ∀ m : List β, Sim (c.set i (some (.mu (m.map e2)))) g (t m) out lo ke e) : Sim c (gSeq (gMut0 i K) g) (TR.ob r t) out lo ke e := by
  cases r with
  | er n p => exact hr.elim
  | no => exact fun _ _ => trivial
  | ok m =>
    have hr : K (l.map e2) = some (m.map e2) := hr
    refine fun env H => ?_
    have q1 := H.get hc
    have E : gMut0 i K env = .nx (env.set i (.mu (m.map e2))) := by unfold gMut0; rw [q1]; show (match K (l.map e2) with | some m => SR.nx (env.set i (.mu m)) | none => .no) = _; rw [hr]
    have E2 : gSeq (gMut0 i K) g env = g (env.set i (.mu (m.map e2))) := by unfold gSeq; rw [E]
    rw [E2]
    exact k m _ (H.set i _)
@[irreducible] def appT (l : List α) (x : α) : R (List α) := if l.length < 16777216 then .ok (l ++ [x]) else .no
@[irreducible] def extT (l m : List α) : R (List α) := if l.length + m.length ≤ 16777216 then .ok (l ++ m) else .no
theorem ro_app {l : List α} {x : α} : RefO (kApp (l.map e1) (e1 x)) (appT l x) e1 := by
  unfold appT kApp
  rw [List.length_map, sz_line]
  by_cases h : l.length < 16777216
  · rw [if_pos h, if_pos h]; show _ = _; simp
  · rw [if_neg h, if_neg h]; trivial
theorem ro_ext {l m : List α} : RefO (kExt (l.map e1) (eL e1 m)) (extT l m) e1 := by
  unfold extT
  show RefO (if (l.map e1).length + (m.map e1).length ≤ sizeLine then some (l.map e1 ++ m.map e1) else none) _ _
  rw [List.length_map, List.length_map, sz_line]
  by_cases h : l.length + m.length ≤ 16777216
  · rw [if_pos h, if_pos h]; show _ = _; simp
  · rw [if_neg h, if_neg h]; trivial
theorem ro_rev {l : List α} : RefO (kRev (l.map e1)) (.ok l.reverse) e1 := by show some _ = _; simp
theorem ro_clear {l : List α} : RefO (kClear (l.map e1)) (.ok []) e1 := rfl
def popT0 (l : List α) : R (List α) := match l with
  | [] => .no
  | _ => .ok l.dropLast
theorem ro_pop {l : List α} : RefO (kPop (l.map e1)) (popT0 l) e1 := by
  cases l with
  | nil => trivial
  | cons a l => show some _ = some _; rw [List.map_dropLast]
/-! name = list.pop(..) -/
@[irreducible] def popT (l : List α) : R (List α × α) := match l[l.length - 1]? with
  | some d => .ok (l.dropLast, d)
  | none => .no
@[irreducible] def popAtT (l : List α) (n : Int) : R (List α × α) := if -(2 ^ 63) ≤ n ∧ n < 2 ^ 63 then (match ixN l.length n with
  | some k => (match l[k]? with
    | some d => .ok (l.eraseIdx k, d)
    | none => .no)
  | none => .no) else .no
theorem sim_pop {i j : Nat} {l : List α} {t : List α × α → TR Λ Γ ρ} (hc : c[i]? = some (some (.mu (l.map e1))) := by rfl) (k : ∀ m : List α × α, Sim ((c.set i (some (.mu (m.1.map e1)))).set j (some (.im (e1 m.2)))) g (t m) out lo ke e) : Sim c (gSeq (gPop j i) g) (TR.ob (popT l) t) out lo ke e := fun env H => by
  have q1 := H.get hc
  unfold popT
  cases hl : l[l.length - 1]? with
  | none => trivial
  | some d =>
    have E : gPop j i env = .nx ((env.set i (.mu (l.dropLast.map e1))).set j (.im (e1 d))) := by
      unfold gPop
      rw [q1]
      show (match (l.map e1)[(l.map e1).length - 1]? with | some d => SR.nx ((env.set i (.mu (l.map e1).dropLast)).set j (.im d)) | none => .no) = _
      rw [List.length_map, List.getElem?_map, hl, List.map_dropLast]
      rfl
    have E2 : gSeq (gPop j i) g env = g ((env.set i (.mu (l.dropLast.map e1))).set j (.im (e1 d))) := by unfold gSeq; rw [E]
    rw [E2]
    exact k (l.dropLast, d) _ ((H.set i _).set j _)
theorem sim_popAt {i j : Nat} {f : F} {n : Int} {l : List α} {t : List α × α → TR Λ Γ ρ} (hc : c[i]? = some (some (.mu (l.map e1))) := by rfl) (h : EvE c f (.ok n) eI) (k : ∀ m : List α × α, Sim ((c.set i (some (.mu (m.1.map e1)))).set j (some (.im (e1 m.2)))) g (t m) out lo ke e) : Sim c (gSeq (gPopAt j i f) g) (TR.ob (popAtT l n) t) out lo ke e := fun env H => by
  have q1 := H.get hc
  have q2 : f env = .ok (.int n) := h env H
  unfold popAtT
  by_cases hn : -(2 ^ 63) ≤ n ∧ n < 2 ^ 63
  · rw [if_pos hn]
    cases hi : ixN l.length n with
    | none => trivial
    | some kk =>
      cases hl : l[kk]? with
      | none => simp only [hl]; trivial
      | some d =>
        have E : gPopAt j i f env = .nx ((env.set i (.mu ((l.eraseIdx kk).map e1))).set j (.im (e1 d))) := by
          unfold gPopAt
          rw [q1, q2]
          show (if -(2 ^ 63) ≤ n ∧ n < 2 ^ 63 then (match ixN (l.map e1).length n with
            | some k => (match (l.map e1)[k]? with
              | some d => SR.nx ((env.set i (.mu ((l.map e1).eraseIdx k))).set j (.im d))
              | none => .no)
            | none => .no) else .no) = _
          rw [if_pos hn, List.length_map, hi]
          show (match (l.map e1)[kk]? with
              | some d => SR.nx ((env.set i (.mu ((l.map e1).eraseIdx kk))).set j (.im d))
              | none => .no) = _
          rw [List.getElem?_map, hl]
          show SR.nx _ = _
          rw [eraseIdx_map']
        have E2 : gSeq (gPopAt j i f) g env = g ((env.set i (.mu ((l.eraseIdx kk).map e1))).set j (.im (e1 d))) := by unfold gSeq; rw [E]
        rw [E2]
        simp only [hl]
        exact k (l.eraseIdx kk, d) _ ((H.set i _).set j _)
  · rw [if_neg hn]; trivial
/-! name[index] = value -/
@[irreducible] def setT (l : List α) (n : Int) (d : α) : R (List α) := match ixN l.length n with
  | some k => .ok (l.set k d)
  | none => .no
theorem sim_setIx {i : Nat} {fi f : F} {n : Int} {x : α} {l : List α} {t : List α → TR Λ Γ ρ} (hc : c[i]? = some (some (.mu (l.map e1))) := by rfl) (h : EvE c f (.ok x) e1) (hi : EvE c fi (.ok n) eI) (k : ∀ m : List α, Sim (c.set i (some (.mu (m.map e1)))) g (t m) out lo ke e) : Sim c (gSeq (gSetIx i fi f) g) (TR.ob (setT l n x) t) out lo ke e := fun env H => by
  have q1 := H.get hc
  have q2 : f env = .ok (e1 x) := h env H
  have q3 : fi env = .ok (.int n) := hi env H
  unfold setT
  cases hn : ixN l.length n with
  | none => trivial
  | some kk =>
    have E : gSetIx i fi f env = .nx (env.set i (.mu ((l.set kk x).map e1))) := by
      unfold gSetIx
      rw [q1, q2, q3]
      show (match ixN (l.map e1).length n with
      | some k => SR.nx (env.set i (.mu ((l.map e1).set k (e1 x))))
      | none => .no) = _
      rw [List.length_map, hn]
      show SR.nx _ = _
      rw [List.map_set]
    have E2 : gSeq (gSetIx i fi f) g env = g (env.set i (.mu ((l.set kk x).map e1))) := by unfold gSeq; rw [E]
    rw [E2]
    exact k _ _ (H.set i _)
theorem sim_setIxb {i : Nat} {fi f : F} {n : R Int} {x : R α} {l : List α} {t : List α → TR Λ Γ ρ} (hk : Kp c ke) (hc : c[i]? = some (some (.mu (l.map e1))) := by rfl) (h : EvE c f x e1) (hi : EvE c fi n eI) (k : ∀ m : List α, Sim (c.set i (some (.mu (m.map e1)))) g (t m) out lo ke e) : Sim c (gSeq (gSetIx i fi f) g) (TR.ob (x.bind fun x => n.bind fun n => setT l n x) t) out lo ke e := by
  cases x with
  | ok x =>
    cases n with
    | ok n => exact sim_setIx hc h hi k
    | er m p =>
      intro env H
      have q1 := H.get hc
      have q2 : f env = .ok (e1 x) := h env H
      have q3 : fi env = .er m p := hi env H
      refine ⟨env, ?_, hk env H⟩
      have E : gSetIx i fi f env = .er env m p := by unfold gSetIx; rw [q1, q2, q3]; rfl
      unfold gSeq; rw [E]
    | no => exact fun _ _ => trivial
  | er m p =>
    intro env H
    have q1 := H.get hc
    have q2 : f env = .er m p := h env H
    refine ⟨env, ?_, hk env H⟩
    have E : gSetIx i fi f env = .er env m p := by unfold gSetIx; rw [q1, q2]; rfl
    unfold gSeq; rw [E]
  | no => exact fun _ _ => trivial
@[irreducible] def augT (op : Int → Int → Int) (l : List Int) (n y : Int) : R (List Int) := if 0 ≤ n ∧ n < 2 ^ 63 then (match l[n.toNat]? with
  | some x => .ok (l.set n.toNat (op x y))
  | none => .no) else .no
theorem sim_augIx {i : Nat} {fi f : F} {op : Int → Int → Int} {n y : Int} {l : List Int} {t : List Int → TR Λ Γ ρ} (hc : c[i]? = some (some (.mu (l.map eI))) := by rfl) (h : EvE c f (.ok y) eI) (hi : EvE c fi (.ok n) eI) (k : ∀ m : List Int, Sim (c.set i (some (.mu (m.map eI)))) g (t m) out lo ke e) : Sim c (gSeq (gAugIx i fi f op) g) (TR.ob (augT op l n y) t) out lo ke e := fun env H => by
  have q1 := H.get hc
  have q2 : f env = .ok (.int y) := h env H
  have q3 : fi env = .ok (.int n) := hi env H
  unfold augT
  by_cases hn : 0 ≤ n ∧ n < 2 ^ 63
  · rw [if_pos hn]
    cases hl : l[n.toNat]? with
    | none => trivial
    | some x =>
      have E : gAugIx i fi f op env = .nx (env.set i (.mu ((l.set n.toNat (op x y)).map eI))) := by
        unfold gAugIx
        rw [q1, q3]
        show (if 0 ≤ n ∧ n < 2 ^ 63 then (match (l.map eI)[n.toNat]? with
          | some (.int x) => SR.of env (f env) fun
            | .int y => .nx (env.set i (.mu ((l.map eI).set n.toNat (.int (op x y)))))
            | _ => .no
          | _ => .no) else SR.no) = _
        rw [if_pos hn, List.getElem?_map, hl, q2]
        show SR.nx _ = _
        rw [List.map_set]
      have E2 : gSeq (gAugIx i fi f op) g env = g (env.set i (.mu ((l.set n.toNat (op x y)).map eI))) := by unfold gSeq; rw [E]
      rw [E2]
      exact k _ _ (H.set i _)
  · rw [if_neg hn]; trivial
theorem sim_augIxb {i : Nat} {fi f : F} {op : Int → Int → Int} {n y : R Int} {l : List Int} {t : List Int → TR Λ Γ ρ} (hk : Kp c ke) (hc : c[i]? = some (some (.mu (l.map eI))) := by rfl) (h : EvE c f y eI) (hi : EvE c fi n eI) (k : ∀ m : List Int, Sim (c.set i (some (.mu (m.map eI)))) g (t m) out lo ke e) : Sim c (gSeq (gAugIx i fi f op) g) (TR.ob (n.bind fun n => y.bindQ fun y => augT op l n y) t) out lo ke e := by
  cases n with
  | ok n =>
    cases y with
    | ok y => exact sim_augIx hc h hi k
    | er m p => exact fun _ _ => trivial
    | no => exact fun _ _ => trivial
  | er m p =>
    intro env H
    have q1 := H.get hc
    have q2 : fi env = .er m p := hi env H
    refine ⟨env, ?_, hk env H⟩
    have E : gAugIx i fi f op env = .er env m p := by unfold gAugIx; rw [q1, q2]; rfl
    unfold gSeq; rw [E]
  | no => exact fun _ _ => trivial
theorem sim_aug {i : Nat} {f : F} {op : Int → Int → Int} {x y : Int} {t : TR Λ Γ ρ} (hc : c[i]? = some (some (.im (eI x))) := by rfl) (h : EvE c f (.ok y) eI) (k : Sim (c.set i (some (.im (eI (op x y))))) g t out lo ke e) : Sim c (gSeq (gAug i f op) g) t out lo ke e := fun env H => by
  have q1 := H.get hc
  have q2 : f env = .ok (.int y) := h env H
  have E : gAug i f op env = .nx (env.set i (.im (.int (op x y)))) := by unfold gAug; rw [q1, q2]; rfl
  have E2 : gSeq (gAug i f op) g env = g (env.set i (.im (.int (op x y)))) := by unfold gSeq; rw [E]
  rw [E2]
  exact k _ (H.set i _)
theorem sim_augb {i : Nat} {f : F} {op : Int → Int → Int} {x : Int} {y : R Int} {t : Int → TR Λ Γ ρ} (hk : Kp c ke) (hc : c[i]? = some (some (.im (eI x))) := by rfl) (h : EvE c f y eI) (k : ∀ y, Sim (c.set i (some (.im (eI (op x y))))) g (t y) out lo ke e) : Sim c (gSeq (gAug i f op) g) (TR.ob y t) out lo ke e := by
  cases y with
  | ok y => exact sim_aug hc h (k y)
  | er m p =>
    intro env H
    have q1 := H.get hc
    have q2 : f env = .er m p := h env H
    refine ⟨env, ?_, hk env H⟩
    have E : gAug i f op env = .er env m p := by unfold gAug; rw [q1, q2]; rfl
    unfold gSeq; rw [E]
  | no => exact fun _ _ => trivial
end
/-! ### loops -/
section
variable {Λ Γ Δ ρ α β τ : Type} {c c' : Ce} {g g1 g2 : G} {f : F} {out : Γ → Ce} {lo : Λ → Ce} {ke : En → Prop} {e : ρ → D} {e1 : α → D} {e2 : β → D}
theorem forT_ref {t : FT} {body : G} {b : α → Γ → TR Γ Γ ρ} (inv : Γ → Ce) (hb : ∀ a x, ∃ c', EvT (inv x) t (e1 a) c' ∧ Sim c' body (b a x) inv inv ke e) : ∀ (l : List α) (x : Γ), Sim (inv x) (forF t body (l.map e1)) (forT b l x : TR Λ Γ ρ) inv lo ke e
  | [], x => fun env H => ⟨env, rfl, H⟩
  | a :: l, x => fun env H => by
    obtain ⟨c', h1, h2⟩ := hb a x
    obtain ⟨e', a1, a2⟩ := h1 env H
    have k := h2 e' a2
    have E : forF t body ((a :: l).map e1) env = match body e' with | .nx e => forF t body (l.map e1) e | .ct e => forF t body (l.map e1) e | .bk e => .nx e | r => r := by
      show (match t (e1 a) env with | .ok e => (match body e with | .nx e => forF t body (l.map e1) e | .ct e => forF t body (l.map e1) e | .bk e => .nx e | r => r) | _ => .no) = _
      rw [a1]
    rw [E]
    unfold forT
    cases hk : b a x with
    | nx y =>
      rw [hk] at k
      obtain ⟨e2, k1, k2⟩ := k
      rw [k1]
      exact forT_ref inv hb l y e2 k2
    | ct y =>
      rw [hk] at k
      obtain ⟨e2, k1, k2⟩ := k
      rw [k1]
      exact forT_ref inv hb l y e2 k2
    | bk y =>
      rw [hk] at k
      obtain ⟨e2, k1, k2⟩ := k
      rw [k1]
      exact ⟨e2, rfl, k2⟩
    | rt d =>
      rw [hk] at k
      have k : body e' = .rt (e d) := k
      rw [k]
    | er n p =>
      rw [hk] at k
      obtain ⟨e2, k1, k2⟩ := k
      rw [k1]
      exact ⟨e2, rfl, k2⟩
    | no => trivial
theorem sim_for {items : F} {t : FT} {body : G} {l : List α} {x0 : Γ} (b : α → Γ → TR Γ Γ ρ) (inv : Γ → Ce) (bits : List Bool) (hi : EvE c items (.ok l) (eL e1)) (hb : ∀ a x, ∃ c', EvT (inv x) t (e1 a) c' ∧ Sim c' body (b a x) inv inv ke e) (h0 : inv x0 = msk bits c := by rfl) : Sim c (gFor items t body) (forT b l x0 : TR Λ Γ ρ) inv lo ke e := fun env H => by
  have q : items env = .ok (.lst (l.map e1)) := hi env H
  have E : gFor items t body env = forF t body (l.map e1) env := gFor_e q
  rw [E]
  exact forT_ref inv hb l x0 env (h0 ▸ H.msk bits)
theorem sim_forb {items : F} {t : FT} {body : G} {r : R (List α)} {x0 : Γ} (hk : Kp c ke) (b : α → Γ → TR Γ Γ ρ) (inv : Γ → Ce) (bits : List Bool) (hi : EvE c items r (eL e1)) (hb : ∀ a x, ∃ c', EvT (inv x) t (e1 a) c' ∧ Sim c' body (b a x) inv inv ke e) (h0 : inv x0 = msk bits c := by rfl) : Sim c (gFor items t body) (TR.ob r fun l => forT b l x0 : TR Λ Γ ρ) inv lo ke e := by
  cases r with
  | ok l => exact sim_for b inv bits hi hb h0
  | er m p =>
    intro env H
    have q2 : items env = .er m p := hi env H
    refine ⟨env, ?_, hk env H⟩
    unfold gFor; rw [q2]; rfl
  | no => exact fun _ _ => trivial
theorem whT_ref {cf : F} {body : G} {tt : Γ → R Bool} {b : Γ → TR Γ Γ ρ} (inv : Γ → Ce) (hk : ∀ x, Kp (inv x) ke) (hc : ∀ x, EvE (inv x) cf (tt x) eB) (hb : ∀ x, Sim (inv x) body (b x) inv inv ke e) : ∀ (n : Nat) (x : Γ), Sim (inv x) (whF cf body n) (whT tt b n x : TR Λ Γ ρ) inv lo ke e
  | 0, x => fun env H => trivial
  | n + 1, x => fun env H => by
    have q := hc x env H
    unfold whT
    have E : whF cf body (n + 1) env = .of env (cf env) fun
      | .bl t => cond t (match body env with
        | .nx e => whF cf body n e
        | .ct e => whF cf body n e
        | .bk e => .nx e
        | r => r) (.nx env)
      | _ => .no := rfl
    rw [E]
    cases ht : tt x with
    | no => trivial
    | er m p =>
      rw [ht] at q
      have q : cf env = .er m p := q
      rw [q]
      exact ⟨env, rfl, hk x env H⟩
    | ok k =>
      rw [ht] at q
      have q : cf env = .ok (.bl k) := q
      rw [q]
      cases k with
      | false => exact ⟨env, rfl, H⟩
      | true =>
        have k := hb x env H
        have E2 : (SR.of env (R.ok (D.bl true)) fun
          | .bl t => cond t (match body env with
            | .nx e => whF cf body n e
            | .ct e => whF cf body n e
            | .bk e => .nx e
            | r => r) (.nx env)
          | _ => .no) = match body env with
            | .nx e => whF cf body n e
            | .ct e => whF cf body n e
            | .bk e => .nx e
            | r => r := rfl
        rw [E2]
        show match (match b x with
          | .nx g => whT tt b n g
          | .ct g => whT tt b n g
          | .bk g => .nx g
          | .rt d => .rt d
          | .er c p => .er c p
          | .no => .no : TR Λ Γ ρ) with | _ => _
        cases hk2 : b x with
        | nx y =>
          rw [hk2] at k
          obtain ⟨e2, k1, k2⟩ := k
          rw [k1]
          exact whT_ref inv hk hc hb n y e2 k2
        | ct y =>
          rw [hk2] at k
          obtain ⟨e2, k1, k2⟩ := k
          rw [k1]
          exact whT_ref inv hk hc hb n y e2 k2
        | bk y =>
          rw [hk2] at k
          obtain ⟨e2, k1, k2⟩ := k
          rw [k1]
          exact ⟨e2, rfl, k2⟩
        | rt d =>
          rw [hk2] at k
          have k : body env = .rt (e d) := k
          rw [k]
          exact rfl
        | er m p =>
          rw [hk2] at k
          obtain ⟨e2, k1, k2⟩ := k
          rw [k1]
          exact ⟨e2, rfl, k2⟩
        | no => trivial
theorem sim_while {cf : F} {body : G} {n : Nat} {x0 : Γ} (tt : Γ → R Bool) (b : Γ → TR Γ Γ ρ) (inv : Γ → Ce) (bits : List Bool) (hk : ∀ x, Kp (inv x) ke) (hc : ∀ x, EvE (inv x) cf (tt x) eB) (hb : ∀ x, Sim (inv x) body (b x) inv inv ke e) (h0 : inv x0 = msk bits c := by rfl) : Sim c (gWhile n cf body) (whT tt b n x0 : TR Λ Γ ρ) inv lo ke e := fun env H => whT_ref inv hk hc hb n x0 env (h0 ▸ H.msk bits)
/-! ### try -/
theorem sim_try {i : Nat} {tb : List (Nat × Bool)} {body suite : G} {t : TR Λ Γ ρ} {s : Nat → TR Λ Γ ρ} {ck : Ce} (hn : ∀ x, out x = (out x).set i none) (hn2 : ∀ x, lo x = (lo x).set i none) (hke : Kp ck ke) (hb : Sim c body t out lo (Has ck) e) (hs : ∀ k, Sim (ck.set i (some (.im (eX k)))) suite (s k) out lo keT e) : Sim c (gTry i tb body suite) (t.tr tb s) out lo ke e := fun env H => by
  have k := hb env H
  unfold gTry
  cases t with
  | nx x =>
    obtain ⟨e', a, b⟩ := k
    rw [a]
    exact ⟨e', rfl, b⟩
  | bk x =>
    obtain ⟨e', a, b⟩ := k
    rw [a]
    exact ⟨e', rfl, b⟩
  | ct x =>
    obtain ⟨e', a, b⟩ := k
    rw [a]
    exact ⟨e', rfl, b⟩
  | rt d =>
    have k : body env = .rt (e d) := k
    rw [k]
    exact rfl
  | no => trivial
  | er n p =>
    obtain ⟨e', a, b⟩ := k
    rw [a]
    rw [tr_er]
    cases hl : tb.lookup n with
    | none => trivial
    | some k =>
      cases k with
      | false =>
        refine ⟨e', ?_, hke e' b⟩
        simp only [SR.tryK, hl]
      | true =>
        cases p with
        | cons => trivial
        | nil =>
          have E : SR.tryK (.er e' n []) i tb suite = suiteEnd i (suite (e'.set i (.im (.exc n [])))) := tryK_er hl
          rw [E, trE_t]
          have q := hs n _ (b.set i (.im (.exc n [])))
          cases hsn : s n with
          | nx x =>
            rw [hsn] at q
            obtain ⟨e2, q1, q2⟩ := q
            rw [q1]
            exact ⟨_, rfl, hn x ▸ q2.unset i .no⟩
          | bk x =>
            rw [hsn] at q
            obtain ⟨e2, q1, q2⟩ := q
            rw [q1]
            exact ⟨_, rfl, hn2 x ▸ q2.unset i .no⟩
          | ct x =>
            rw [hsn] at q
            obtain ⟨e2, q1, q2⟩ := q
            rw [q1]
            exact ⟨_, rfl, hn2 x ▸ q2.unset i .no⟩
          | rt d =>
            rw [hsn] at q
            have q : suite _ = .rt (e d) := q
            rw [q]
            exact rfl
          | er m p => trivial
          | no => trivial
/-! ### defs -/
theorem ref_def {n : Nat} {fl : List Bool} {g : G} {ds : List D} {t : TR Empty Γ ρ} {dflt : R ρ} {out : Γ → Ce} {c : Ce} (hl : ds.length = fl.length) (hc : Has c (env0 n fl ds)) (h : Sim c g t out (fun x => nomatch x) keT e) (hd : (∃ d, dflt = .ok d ∧ e d = .non) ∨ dflt = .no) : RefR (defD n fl g ds) (t.out dflt) e := by
  have k := h _ hc
  unfold defD
  rw [if_pos hl]
  cases t with
  | nx x =>
    obtain ⟨e', a, b⟩ := k
    rw [a]
    rcases hd with ⟨d, rfl, hd⟩ | rfl
    · show R.ok D.non = .ok (e d)
      rw [hd]
    · trivial
  | bk x => exact nomatch x
  | ct x => exact nomatch x
  | rt d =>
    have k : g (env0 n fl ds) = .rt (e d) := k
    rw [k]
    exact rfl
  | er m p =>
    obtain ⟨e', a, b⟩ := k
    rw [a]
    exact rfl
  | no => trivial
theorem ref_defN {n : Nat} {fl : List Bool} {g : G} {ds : List D} {t : TR Empty Γ ρ} {out : Γ → Ce} {c : Ce} (hl : ds.length = fl.length) (hc : Has c (env0 n fl ds)) (h : Sim c g t out (fun x => nomatch x) keT e) : RefR (defN n fl g ds) (t.out .no) e := by
  have k := h _ hc
  unfold defN
  rw [if_pos hl]
  cases t with
  | nx x => trivial
  | bk x => exact nomatch x
  | ct x => exact nomatch x
  | rt d =>
    have k : g (env0 n fl ds) = .rt (e d) := k
    rw [k]
    exact rfl
  | er m p =>
    obtain ⟨e', a, b⟩ := k
    rw [a]
    exact rfl
  | no => trivial
end
end BW
/-! BTy3: the operations, typed. -/
namespace BW
open PySem PySem.Spec PyProof.Rows L2
section
variable {α β γ δ τ : Type} {e : α → D} {e1 : α → D} {e2 : β → D} {e3 : γ → D} {e4 : δ → D}
/-! ### whole numbers -/
theorem rf_add {a b : Int} : RefR (addD (eI a) (eI b)) (.ok (a + b)) eI := rfl
theorem rf_sub {a b : Int} : RefR (subD (eI a) (eI b)) (.ok (a - b)) eI := rfl
theorem rf_neg {a : Int} : RefR (negD (eI a)) (.ok (-a)) eI := rfl
theorem rf_lt {a b : Int} : RefR (ltD (eI a) (eI b)) (.ok (decide (a < b))) eB := rfl
theorem rf_le {a b : Int} : RefR (leD (eI a) (eI b)) (.ok (decide (a ≤ b))) eB := rfl
theorem rf_gt {a b : Int} : RefR (gtD (eI a) (eI b)) (.ok (decide (b < a))) eB := rfl
theorem rf_ge {a b : Int} : RefR (geD (eI a) (eI b)) (.ok (decide (b ≤ a))) eB := rfl
theorem rf_and {a b : Int} : RefR (andD (eI a) (eI b)) (.ok (Builtin.bitAnd a b)) eI := rfl
theorem rf_or {a b : Int} : RefR (orD (eI a) (eI b)) (.ok (Builtin.bitOr a b)) eI := rfl
theorem rf_xor {a b : Int} : RefR (xorD (eI a) (eI b)) (.ok (Builtin.bitXor a b)) eI := rfl
theorem ref_ite {c : Prop} [Decidable c] {x : D} {a : α} (h : x = e a) : RefR (if c then .ok x else .no) (if c then .ok a else .no : R α) e := by
  by_cases hc : c
  · rw [if_pos hc, if_pos hc, h]; exact rfl
  · rw [if_neg hc, if_neg hc]; trivial
@[irreducible] def mulT (i j : Int) : R Int := if smallI i || smallI j || decide (i.natAbs.log2 + j.natAbs.log2 < 1000000) then .ok (i * j) else .no
theorem rf_mul {i j : Int} : RefR (mulD (eI i) (eI j)) (mulT i j) eI := by
  unfold mulT
  have E : mulD (eI i) (eI j) = if smallI i || smallI j || decide (i.natAbs.log2 + j.natAbs.log2 < 1000000) then .ok (.int (i * j)) else .no := by simp only [mulD]
  rw [E]
  exact ref_ite (e := eI) rfl
theorem rf_mulL {i j : Int} (h : smallI i = true := by decide +kernel) : RefR (mulD (eI i) (eI j)) (.ok (i * j)) eI := mul_ok (.inl h)
theorem rf_mulR {i j : Int} (h : smallI j = true := by decide +kernel) : RefR (mulD (eI i) (eI j)) (.ok (i * j)) eI := mul_ok (.inr h)
@[irreducible] def fdivT (i j : Int) : R Int := if 0 < j ∧ j.natAbs.log2 < 9000 then .ok (i / j) else .no
theorem rf_fdiv {i j : Int} : RefR (fdivD (eI i) (eI j)) (fdivT i j) eI := by
  unfold fdivT
  exact ref_ite (e := eI) rfl
theorem rf_fdivL {i j : Int} (h : decide (0 < j ∧ j.natAbs.log2 < 9000) = true := by decide +kernel) : RefR (fdivD (eI i) (eI j)) (.ok (i / j)) eI := if_pos (of_decide_eq_true h)
@[irreducible] def modT (i j : Int) : R Int := if 0 < j then .ok (i % j) else .no
theorem rf_mod {i j : Int} : RefR (modD (eI i) (eI j)) (modT i j) eI := by
  unfold modT
  exact ref_ite (e := eI) rfl
theorem rf_modL {i j : Int} (h : decide (0 < j) = true := by decide +kernel) : RefR (modD (eI i) (eI j)) (.ok (i % j)) eI := if_pos (of_decide_eq_true h)
@[irreducible] def powT (i j : Int) : R Int := if 0 ≤ j ∧ j ≤ 1000000 ∧ i.natAbs < 2 ^ 64 then .ok (i ^ j.toNat) else .no
theorem rf_pow {i j : Int} : RefR (powD (eI i) (eI j)) (powT i j) eI := by
  unfold powT
  have E : powD (.int i) (.int j) = if 0 ≤ j ∧ j ≤ 1000000 ∧ i.natAbs < 2 ^ 64 then .ok (.int (i ^ j.toNat)) else .no := by simp only [powD]
  rw [E]
  exact ref_ite (e := eI) rfl
theorem rf_powL {i : Int} {j : Nat} (h : decide (j ≤ 1000000 ∧ i.natAbs < 18446744073709551616) = true := by decide +kernel) : RefR (powD (eI i) (eI (j : Int))) (.ok (i ^ j)) eI := by
  obtain ⟨h1, h2⟩ := of_decide_eq_true h
  exact pow_ok (by omega) h1
@[irreducible] def shlT (i j : Int) : R Int := if 0 ≤ j ∧ j ≤ 1000000 ∧ i.natAbs < 2 ^ 64 then .ok (i * 2 ^ j.toNat) else .no
theorem rf_shl {i j : Int} : RefR (shlD (eI i) (eI j)) (shlT i j) eI := by
  unfold shlT
  have E : shlD (.int i) (.int j) = if 0 ≤ j ∧ j ≤ 1000000 ∧ i.natAbs < 2 ^ 64 then .ok (.int (i * 2 ^ j.toNat)) else .no := by simp only [shlD]
  rw [E]
  exact ref_ite (e := eI) rfl
@[irreducible] def shrT (i j : Int) : R Int := if 0 ≤ j then .ok (i / 2 ^ j.toNat) else .no
theorem rf_shr {i j : Int} : RefR (shrD (eI i) (eI j)) (shrT i j) eI := by
  unfold shrT
  exact ref_ite (e := eI) rfl
theorem rf_abs {i : Int} : RefR (absD [eI i]) (.ok (i.natAbs : Int)) eI := s_absD i
theorem rf_int {i : Int} : RefR (intD [eI i]) (.ok i) eI := rfl
theorem rf_intb {b : Bool} : RefR (intD [eB b]) (.ok (cond b 1 0)) eI := s_intD_b b
theorem rf_bool {i : Int} : RefR (boolD [eI i]) (.ok (i != 0)) eB := rfl
theorem rf_boolb {b : Bool} : RefR (boolD [eB b]) (.ok b) eB := rfl
@[irreducible] def strT (i : Int) : R Str := if i.natAbs.log2 < 1920 then .ok (toString i) else .no
theorem rf_str {i : Int} : RefR (strD [eI i]) (strT i) eZ := by
  unfold strT
  exact ref_ite (e := eZ) rfl
theorem rf_max2 {i j : Int} : RefR (maxD [eI i, eI j]) (.ok (max i j)) eI := by
  show R.ok (D.int (if j > i then j else i)) = .ok (.int (max i j))
  congr 2
  split <;> omega
theorem rf_min2 {i j : Int} : RefR (minD [eI i, eI j]) (.ok (min i j)) eI := by
  show R.ok (D.int (if j < i then j else i)) = .ok (.int (min i j))
  congr 2
  split <;> omega
/-! ### lists -/
@[irreducible] def catT (l m : List α) : R (List α) := if l.length + m.length ≤ 16777216 then .ok (l ++ m) else .no
theorem ref_cat {l m : List α} {k : List D → D} (h : k ((l ++ m).map e) = k (l.map e ++ m.map e)) : RefR (if (l.map e).length + (m.map e).length ≤ sizeLine then .ok (k (l.map e ++ m.map e)) else .no) (catT l m) (fun x => k (x.map e)) := by
  unfold catT
  rw [List.length_map, List.length_map, sz_line]
  exact ref_ite (e := fun x : List α => k (x.map e)) h.symm
theorem rf_cat {l m : List α} : RefR (catD (eL e l) (eL e m)) (catT l m) (eL e) := ref_cat (k := D.lst) (by rw [List.map_append])
theorem rf_addL {l m : List α} : RefR (addD (eL e l) (eL e m)) (catT l m) (eL e) := ref_cat (k := D.lst) (by rw [List.map_append])
theorem rf_addT {l m : List α} : RefR (addD (eT e l) (eT e m)) (catT l m) (eT e) := ref_cat (k := D.tup) (by rw [List.map_append])
@[irreducible] def catZ (x y : Str) : R Str := if x.length + y.length ≤ 16777216 then .ok (x ++ y) else .no
theorem rf_addZ {x y : Str} : RefR (addD (eZ x) (eZ y)) (catZ x y) eZ := by
  unfold catZ
  show RefR (if x.length + y.length ≤ sizeLine then .ok (.str (x ++ y)) else .no) _ _
  rw [sz_line]
  exact ref_ite (e := eZ) rfl
@[irreducible] def repT (l : List α) (k : Int) : R (List α) := if -(2 ^ 63) ≤ k ∧ k < 2 ^ 63 ∧ l.length * k.toNat ≤ 16777216 then .ok (List.replicate k.toNat l).flatten else .no
theorem rf_rep {l : List α} {k : Int} : RefR (repD (eL e l) (eI k)) (repT l k) (eL e) := by
  unfold repT
  show RefR (if -(2 ^ 63) ≤ k ∧ k < 2 ^ 63 ∧ (l.map e).length * k.toNat ≤ sizeLine then .ok (.lst (List.replicate k.toNat (l.map e)).flatten) else .no) _ _
  rw [List.length_map, sz_line]
  refine ref_ite (e := eL e) ?_
  show D.lst _ = D.lst _
  congr 1
  rw [List.map_flatten, List.map_replicate]
@[irreducible] def rep1 (a : α) (k : Int) : R (List α) := if -(2 ^ 63) ≤ k ∧ k.toNat ≤ 16777216 then .ok (List.replicate k.toNat a) else .no
theorem flat_one (a : α) : ∀ n : Nat, (List.replicate n [a]).flatten = List.replicate n a
  | 0 => rfl
  | n + 1 => by
    rw [List.replicate_succ, List.flatten_cons, flat_one a n]
    rfl
theorem rf_rep1 {a : α} {k : Int} : RefR (repD (eL e [a]) (eI k)) (rep1 a k) (eL e) := by
  show RefR (if -(2 ^ 63) ≤ k ∧ k < 2 ^ 63 ∧ 1 * k.toNat ≤ sizeLine then .ok (.lst (List.replicate k.toNat [e a]).flatten) else .no) _ _
  rw [sz_line, Nat.one_mul, flat_one]
  unfold rep1
  by_cases h : -(2 ^ 63) ≤ k ∧ k.toNat ≤ 16777216
  · rw [if_pos h, if_pos ⟨h.1, by omega, h.2⟩]
    show R.ok (D.lst _) = .ok (D.lst _)
    rw [List.map_replicate]
  · rw [if_neg h]; trivial
@[irreducible] def ixT (l : List α) (i : Int) : R α := match atI l i with
  | some d => .ok d
  | none => .no
theorem ref_at {l : List α} {i : Int} : RefR (match atI (l.map e) i with | some d => .ok d | none => .no) (ixT l i) e := by
  rw [atI_map]
  unfold ixT
  cases atI l i with
  | none => trivial
  | some a => exact rfl
theorem rf_ixL {l : List α} {i : Int} : RefR (ixD (eL e l) (eI i)) (ixT l i) e := ref_at
theorem rf_ixT {l : List α} {i : Int} : RefR (ixD (eT e l) (eI i)) (ixT l i) e := ref_at
theorem rf_ixR {l : List Int} {i : Int} : RefR (ixD (eR l) (eI i)) (ixT l i) eI := by
  show RefR (match atI l i with | some d => .ok (.int d) | none => .no) _ _
  unfold ixT
  cases atI l i with
  | none => trivial
  | some a => exact rfl
theorem rf_ixQ {s : Sq α} {i : Int} : RefR (ixD (eQ e s) (eI i)) (ixT s.l i) e := by
  unfold eQ
  cases s.tp <;> exact ref_at
theorem rf_ixP0 {p : α × β} : RefR (ixD (eP e1 e2 p) (eI 0)) (.ok p.1) e1 := rfl
theorem rf_ixP1 {p : α × β} : RefR (ixD (eP e1 e2 p) (eI 1)) (.ok p.2) e2 := rfl
theorem rf_ixA0 {p : α × β × γ} : RefR (ixD (eP3 e1 e2 e3 p) (eI 0)) (.ok p.1) e1 := rfl
theorem rf_ixA1 {p : α × β × γ} : RefR (ixD (eP3 e1 e2 e3 p) (eI 1)) (.ok p.2.1) e2 := rfl
theorem rf_ixA2 {p : α × β × γ} : RefR (ixD (eP3 e1 e2 e3 p) (eI 2)) (.ok p.2.2) e3 := rfl
theorem rf_ixF0 {p : α × β × γ × δ} : RefR (ixD (eP4 e1 e2 e3 e4 p) (eI 0)) (.ok p.1) e1 := rfl
theorem rf_ixF1 {p : α × β × γ × δ} : RefR (ixD (eP4 e1 e2 e3 e4 p) (eI 1)) (.ok p.2.1) e2 := rfl
theorem rf_ixF2 {p : α × β × γ × δ} : RefR (ixD (eP4 e1 e2 e3 e4 p) (eI 2)) (.ok p.2.2.1) e3 := rfl
theorem rf_ixF3 {p : α × β × γ × δ} : RefR (ixD (eP4 e1 e2 e3 e4 p) (eI 3)) (.ok p.2.2.2) e4 := rfl
/-- a pair of one kind at a place told late -/
def ixP (p : α × α) (i : Int) : R α := ixT [p.1, p.2] i
theorem rf_ixP {p : α × α} {i : Int} : RefR (ixD (eP e e p) (eI i)) (ixP p i) e := ref_at (l := [p.1, p.2])
theorem rf_lenL {l : List α} : RefR (lenD [eL e l]) (.ok (l.length : Int)) eI := by
  show R.ok (D.int ((l.map e).length : Nat)) = _
  rw [List.length_map]
theorem rf_lenT {l : List α} : RefR (lenD [eT e l]) (.ok (l.length : Int)) eI := by
  show R.ok (D.int ((l.map e).length : Nat)) = _
  rw [List.length_map]
theorem rf_lenR {l : List Int} : RefR (lenD [eR l]) (.ok (l.length : Int)) eI := rfl
theorem rf_lenQ {s : Sq α} : RefR (lenD [eQ e s]) (.ok (s.l.length : Int)) eI := by
  unfold eQ
  cases s.tp
  · exact rf_lenL
  · exact rf_lenT
@[irreducible] def lenZ (z : Str) : R Int := if z.length ≤ 16777216 then .ok (z.length : Int) else .no
theorem rf_lenZ {z : Str} : RefR (lenD [eZ z]) (lenZ z) eI := by
  unfold lenZ
  show RefR (if z.length ≤ sizeLine then .ok (.int (z.length : Nat)) else .no) _ _
  rw [sz_line]
  exact ref_ite (e := eI) rfl
theorem rf_seqL {l : List α} : RefR (seqD (eL e l)) (.ok l) (eL e) := rfl
theorem rf_seqT {l : List α} : RefR (seqD (eT e l)) (.ok l) (eL e) := rfl
theorem rf_seqR {l : List Int} : RefR (seqD (eR l)) (.ok l) (eL eI) := rfl
theorem rf_seqQ {s : Sq α} : RefR (seqD (eQ e s)) (.ok s.l) (eL e) := by
  unfold eQ
  cases s.tp <;> exact rfl
theorem rf_seqP {p : α × α} : RefR (seqD (eP e e p)) (.ok [p.1, p.2]) (eL e) := rfl
theorem rf_listL {l : List α} : RefR (listD [eL e l]) (.ok l) (eL e) := rfl
theorem rf_listT {l : List α} : RefR (listD [eT e l]) (.ok l) (eL e) := rfl
theorem rf_listR {l : List Int} : RefR (listD [eR l]) (.ok l) (eL eI) := rfl
theorem rf_listQ {s : Sq α} : RefR (listD [eQ e s]) (.ok s.l) (eL e) := by
  unfold eQ
  cases s.tp <;> exact rfl
theorem rf_tupleL {l : List α} : RefR (tupleD [eL e l]) (.ok l) (eT e) := rfl
theorem rf_tupleT {l : List α} : RefR (tupleD [eT e l]) (.ok l) (eT e) := rfl
theorem rf_tpl {l : List α} : RefR (tplD (eL e l)) (.ok l) (eT e) := rfl
theorem rf_sum {l : List Int} : RefR (sumD [eL eI l]) (.ok l.sum) eI := sumD_ints l
theorem rf_sumR {l : List Int} : RefR (sumD [eR l]) (.ok l.sum) eI := rfl
theorem rf_all {l : List Bool} : RefR (allD [eL eB l]) (.ok (l.all id)) eB := allD_bls l
theorem rf_any {l : List Bool} : RefR (anyD [eL eB l]) (.ok (l.any id)) eB := anyD_bls l
theorem rf_sorted {l : List Int} : RefR (sortedD [eL eI l]) (.ok (sortI l)) (eL eI) := sortedD_ints l
theorem rf_sortedR {l : List Int} : RefR (sortedD [eR l]) (.ok (sortI l)) (eL eI) := rfl
@[irreducible] def maxT (l : List Int) : R Int := match l with
  | [] => .no
  | l => .ok (maxL l)
@[irreducible] def minT (l : List Int) : R Int := match l with
  | [] => .no
  | l => .ok (minL l)
theorem rf_max {l : List Int} : RefR (maxD [eL eI l]) (maxT l) eI := by
  unfold maxT
  cases l with
  | nil => trivial
  | cons a l => exact maxD_ints (by simp)
theorem rf_min {l : List Int} : RefR (minD [eL eI l]) (minT l) eI := by
  unfold minT
  cases l with
  | nil => trivial
  | cons a l => exact minD_ints (by simp)
theorem rf_maxP {p : Int × Int} : RefR (maxTD [eP eI eI p]) (.ok (max p.1 p.2)) eI := maxT_encP p
theorem rf_minP {p : Int × Int} : RefR (minTD [eP eI eI p]) (.ok (min p.1 p.2)) eI := minT_encP p
theorem rf_truL {l : List α} : RefR (truD (eL e l)) (.ok (!l.isEmpty)) eB := by
  show R.ok (D.bl (!(l.map e).isEmpty)) = _
  rw [List.isEmpty_map]
theorem rf_truI {i : Int} : RefR (truD (eI i)) (.ok (i != 0)) eB := rfl
theorem rf_truB {b : Bool} : RefR (truD (eB b)) (.ok b) eB := rfl
/-! so many numbers -/
def rangeI (lo : Int) (n : Nat) : List Int := (List.range n).map fun k : Nat => lo + (k : Int)
theorem rangeL_I (lo : Int) (n : Nat) : rangeL lo n = (rangeI lo n).map D.int := by
  unfold rangeI
  rw [rangeL_map, List.map_map]
  rfl
@[irreducible] def rangeT (n : Int) : R (List Int) := if -(2 ^ 62) ≤ n ∧ n < 2 ^ 62 then .ok (rangeI 0 n.toNat) else .no
theorem rf_range {n : Int} : RefR (rangeD [eI n]) (rangeT n) (eL eI) := by
  unfold rangeT
  have E : rangeD [.int n] = if -(2 ^ 62) ≤ n ∧ n < 2 ^ 62 then .ok (.lst (rangeL 0 n.toNat)) else .no := by simp only [rangeD]
  rw [E]
  refine ref_ite (e := eL eI) ?_
  show D.lst _ = D.lst _
  rw [rangeL_I]
@[irreducible] def range2T (lo n : Int) : R (List Int) := if -(2 ^ 62) ≤ lo ∧ lo < 2 ^ 62 ∧ -(2 ^ 62) ≤ n ∧ n < 2 ^ 62 then .ok (rangeI lo (n - lo).toNat) else .no
theorem rf_range2 {lo n : Int} : RefR (rangeD [eI lo, eI n]) (range2T lo n) (eL eI) := by
  unfold range2T
  have E : rangeD [.int lo, .int n] = if -(2 ^ 62) ≤ lo ∧ lo < 2 ^ 62 ∧ -(2 ^ 62) ≤ n ∧ n < 2 ^ 62 then .ok (.lst (rangeL lo (n - lo).toNat)) else .no := by simp only [rangeD]
  rw [E]
  refine ref_ite (e := eL eI) ?_
  show D.lst _ = D.lst _
  rw [rangeL_I]
@[irreducible] def rgT (n : Int) : R (List Int) := if 0 ≤ n ∧ n ≤ 16777216 then .ok (rangeI 0 n.toNat) else .no
theorem ref_rg {n : Int} : RefR (if 0 ≤ n ∧ n ≤ 16777216 then .ok (.lst (rangeL 0 n.toNat)) else .no) (rgT n) (eL eI) := by
  unfold rgT
  refine ref_ite (e := eL eI) ?_
  show D.lst _ = D.lst _
  rw [rangeL_I]
theorem ev_rg {c : Ce} {f : F} {n : Int} (h : EvE c f (.ok n) eI) : EvE c (rgF f) (rgT n) (eL eI) := ev1p h ref_rg
theorem ev_rgb {c : Ce} {f : F} {n : R Int} (h : EvE c f n eI) : EvE c (rgF f) (n.bind rgT) (eL eI) := ev1b h fun _ => ref_rg
@[irreducible] def rg2T (i j : Int) : R (List Int) := if (0 ≤ i ∧ i ≤ 16777216) ∧ 0 ≤ j ∧ j ≤ 16777216 then .ok (rangeI i (j - i).toNat) else .no
theorem rf_rg2 {i j : Int} : RefR (rg2D (eI i) (eI j)) (rg2T i j) (eL eI) := by
  unfold rg2T
  show RefR (if (0 ≤ i ∧ i ≤ 16777216) ∧ 0 ≤ j ∧ j ≤ 16777216 then .ok (.lst (rangeL i (j - i).toNat)) else .no) _ _
  refine ref_ite (e := eL eI) ?_
  show D.lst _ = D.lst _
  rw [rangeL_I]
/-! slices -/
theorem rf_slL {l : List α} {a b : Option Int} : RefR (sliceD (eL e l) a b) (.ok (cutL l a b)) (eL e) := by
  show R.ok (D.lst (cutL (l.map e) a b)) = _
  rw [cutL_map]
theorem rf_slT {l : List α} {a b : Option Int} : RefR (sliceD (eT e l) a b) (.ok (cutL l a b)) (eT e) := by
  show R.ok (D.tup (cutL (l.map e) a b)) = _
  rw [cutL_map]
theorem rf_slR {l : List Int} {a b : Option Int} : RefR (sliceD (eR l) a b) (.ok (cutL l a b)) (eL eI) := rfl
@[irreducible] def slZ (z : Str) (a b : Option Int) : R Str := if z.length ≤ 16777216 then .ok (cutS z a b) else .no
theorem rf_slZ {z : Str} {a b : Option Int} : RefR (sliceD (eZ z) a b) (slZ z a b) eZ := by
  unfold slZ
  show RefR (if z.length ≤ sizeLine then .ok (.str (cutS z a b)) else .no) _ _
  rw [sz_line]
  exact ref_ite (e := eZ) rfl
/-! displays -/
theorem rf_P {a : α} {b : β} : RefR (tupD [e1 a, e2 b]) (.ok (a, b)) (eP e1 e2) := rfl
theorem rf_P3 {a : α} {b : β} {c : γ} : RefR (tupD [e1 a, e2 b, e3 c]) (.ok (a, b, c)) (eP3 e1 e2 e3) := rfl
theorem rf_P4 {a : α} {b : β} {c : γ} {d : δ} : RefR (tupD [e1 a, e2 b, e3 c, e4 d]) (.ok (a, b, c, d)) (eP4 e1 e2 e3 e4) := rfl
theorem rf_lst {ds : List D} {l : List α} (h : ds = l.map e := by rfl) : RefR (lstD ds) (.ok l) (eL e) := by rw [h]; exact rfl
theorem rf_tupl {ds : List D} {l : List α} (h : ds = l.map e := by rfl) : RefR (tupD ds) (.ok l) (eT e) := by rw [h]; exact rfl
/-! ### == -/
structure PlE (k : Nat) (e : α → D) : Prop where
  py : ∀ a, ∃ p, py (e a) = some p ∧ PyData.canLay0 p = true ∧ p.depth ≤ k
  eqv : ∀ a b p q, BW.py (e a) = some p → BW.py (e b) = some q → (PyData.eqv p q = true ↔ a = b)
theorem eqD_eqG (a b : D) : eqD a b = eqG a b := by
  unfold eqD
  split
  · rename_i i j
    have : eqG (.int i) (.int j) = .ok (.bl (i == j)) := rfl
    rw [this, Bool.beq_eq_decide_eq]
  · rfl
theorem rf_eq [DecidableEq α] {k : Nat} (p : PlE k e) {a b : α} (hk : decide (k ≤ 60) = true := by decide +kernel) : RefR (eqD (e a) (e b)) (.ok (decide (a = b))) eB := by
  obtain ⟨x, h1, h2, h3⟩ := p.py a
  obtain ⟨y, f1, f2, f3⟩ := p.py b
  have hk := of_decide_eq_true hk
  show eqD (e a) (e b) = .ok (.bl (decide (a = b)))
  rw [eqD_eqG]
  unfold eqG
  rw [h1, f1]
  show (if (SeqAt.shaped x && SeqAt.shaped y) = true then R.ok (D.bl (PyData.eqv x y)) else .no) = _
  rw [if_pos]
  · congr 2
    have := p.eqv a b x y h1 f1
    by_cases h : a = b
    · rw [this.mpr h, decide_eq_true h]
    · rw [decide_eq_false h]
      cases hx : PyData.eqv x y with
      | true => exact absurd (this.mp hx) h
      | false => rfl
  · unfold SeqAt.shaped
    rw [h2, f2, decide_eq_true (by omega), decide_eq_true (by omega)]
    rfl
theorem rf_ne [DecidableEq α] {k : Nat} (p : PlE k e) {a b : α} (hk : decide (k ≤ 60) = true := by decide +kernel) : RefR (neD (e a) (e b)) (.ok (!decide (a = b))) eB := neD_of (rf_eq p hk)
theorem plI : PlE 0 eI := ⟨fun i => ⟨.int i, rfl, by first | rfl | simp [PyData.canLay0], by simp [PyData.depth]⟩, fun a b p q h1 h2 => by cases h1; cases h2; simp [PyData.eqv]⟩
theorem plB : PlE 0 eB := ⟨fun i => ⟨.bool i, rfl, by first | rfl | simp [PyData.canLay0], by simp [PyData.depth]⟩, fun a b p q h1 h2 => by cases h1; cases h2; simp [PyData.eqv]⟩
@[irreducible] def eqZ (a b : Str) : R Bool := if PyData.strOk a && PyData.strOk b then .ok (decide (a = b)) else .no
theorem rf_eqZ {a b : Str} : RefR (eqD (eZ a) (eZ b)) (eqZ a b) eB := by
  unfold eqZ
  by_cases h : (PyData.strOk a && PyData.strOk b) = true
  · rw [if_pos h]
    have h2 := Bool.and_eq_true_iff.mp h
    show eqD (.str a) (.str b) = .ok (.bl (decide (a = b)))
    rw [eqD_eqG]
    have E : eqG (.str a) (.str b) = if SeqAt.shaped (.str a) && SeqAt.shaped (.str b) then .ok (.bl (PyData.eqv (.str a) (.str b))) else .no := rfl
    have s : ∀ x, PyData.strOk x = true → SeqAt.shaped (.str x) = true := fun x hx => by unfold SeqAt.shaped; simp [PyData.canLay0, hx, PyData.depth]
    rw [E, s a h2.1, s b h2.2]
    show R.ok (D.bl (PyData.eqv (.str a) (.str b))) = _
    congr 2
  · rw [if_neg h]; trivial
theorem rf_neZ {a b : Str} : RefR (neD (eZ a) (eZ b)) ((eqZ a b).map (!·)) eB := by
  have h := rf_eqZ (a := a) (b := b)
  show RefR ((eqD (eZ a) (eZ b)).bind notD) _ _
  cases hq : eqZ a b with
  | ok k => rw [hq] at h; exact refR_p (e1 := eB) h rfl
  | er n p =>
    rw [hq] at h
    have h : eqD (eZ a) (eZ b) = .er n p := h
    rw [h]; exact rfl
  | no => trivial
theorem plN : PlE 0 eN := ⟨fun i => ⟨.none, rfl, by first | rfl | simp [PyData.canLay0], by simp [PyData.depth]⟩, fun a b p q h1 h2 => by cases h1; cases h2; simp [PyData.eqv]⟩
theorem pl_all {k : Nat} (p : PlE k e) : ∀ l : List α, ∃ ps, pyA (l.map e) = some ps ∧ PyData.canLayAll0 ps = true ∧ PyData.depthAll ps ≤ k
  | [] => ⟨[], rfl, by simp [PyData.canLayAll0], by simp [PyData.depthAll]⟩
  | a :: l => by
    obtain ⟨x, h1, h2, h3⟩ := p.py a
    obtain ⟨ps, f1, f2, f3⟩ := pl_all p l
    refine ⟨x :: ps, ?_, by simp [PyData.canLayAll0, h2, f2], by simp only [PyData.depthAll]; omega⟩
    show ((py (e a)).bind fun x => (pyA (l.map e)).map fun xs => x :: xs) = _
    rw [h1, f1]
    rfl
theorem pl_eqv {k : Nat} (p : PlE k e) : ∀ (l m : List α) (ps qs : List PyData), pyA (l.map e) = some ps → pyA (m.map e) = some qs → (PyData.eqvAll ps qs = true ↔ l = m)
  | [], [], ps, qs, h1, h2 => by cases h1; cases h2; simp [PyData.eqvAll]
  | [], b :: m, ps, qs, h1, h2 => by
    cases h1
    obtain ⟨y, g1, _⟩ := p.py b
    obtain ⟨ys, g2, _⟩ := pl_all p m
    have h2 : ((py (e b)).bind fun x => (pyA (m.map e)).map fun xs => x :: xs) = some qs := h2
    rw [g1, g2] at h2
    cases h2
    simp [PyData.eqvAll]
  | a :: l, [], ps, qs, h1, h2 => by
    cases h2
    obtain ⟨y, g1, _⟩ := p.py a
    obtain ⟨ys, g2, _⟩ := pl_all p l
    have h1 : ((py (e a)).bind fun x => (pyA (l.map e)).map fun xs => x :: xs) = some ps := h1
    rw [g1, g2] at h1
    cases h1
    simp [PyData.eqvAll]
  | a :: l, b :: m, ps, qs, h1, h2 => by
    obtain ⟨x, f1, _⟩ := p.py a
    obtain ⟨xs, f2, _⟩ := pl_all p l
    obtain ⟨y, g1, _⟩ := p.py b
    obtain ⟨ys, g2, _⟩ := pl_all p m
    have h1 : ((py (e a)).bind fun x => (pyA (l.map e)).map fun xs => x :: xs) = some ps := h1
    have h2 : ((py (e b)).bind fun x => (pyA (m.map e)).map fun xs => x :: xs) = some qs := h2
    rw [f1, f2] at h1
    rw [g1, g2] at h2
    cases h1; cases h2
    have k1 := p.eqv a b x y f1 g1
    have k2 := pl_eqv p l m xs ys f2 g2
    simp only [PyData.eqvAll, Bool.and_eq_true, k1, k2, List.cons.injEq]
theorem plL {k : Nat} (p : PlE k e) : PlE (k + 1) (eL e) := ⟨fun l => by
    obtain ⟨ps, h1, h2, h3⟩ := pl_all p l
    exact ⟨.list ps, by show (pyA (l.map e)).map PyData.list = _; rw [h1]; rfl, by simpa [PyData.canLay0] using h2, by simp only [PyData.depth]; omega⟩, fun l m x y h1 h2 => by
    obtain ⟨ps, f1, _⟩ := pl_all p l
    obtain ⟨qs, g1, _⟩ := pl_all p m
    have h1 : (pyA (l.map e)).map PyData.list = some x := h1
    have h2 : (pyA (m.map e)).map PyData.list = some y := h2
    rw [f1] at h1
    rw [g1] at h2
    cases h1; cases h2
    simpa only [PyData.eqv] using pl_eqv p l m ps qs f1 g1⟩
theorem plT {k : Nat} (p : PlE k e) : PlE (k + 1) (eT e) := ⟨fun l => by
    obtain ⟨ps, h1, h2, h3⟩ := pl_all p l
    exact ⟨.tuple ps, by show (pyA (l.map e)).map PyData.tuple = _; rw [h1]; rfl, by simpa [PyData.canLay0] using h2, by simp only [PyData.depth]; omega⟩, fun l m x y h1 h2 => by
    obtain ⟨ps, f1, _⟩ := pl_all p l
    obtain ⟨qs, g1, _⟩ := pl_all p m
    have h1 : (pyA (l.map e)).map PyData.tuple = some x := h1
    have h2 : (pyA (m.map e)).map PyData.tuple = some y := h2
    rw [f1] at h1
    rw [g1] at h2
    cases h1; cases h2
    simpa only [PyData.eqv] using pl_eqv p l m ps qs f1 g1⟩
theorem plPr {k j : Nat} (p : PlE k e1) (q : PlE j e2) : PlE (max k j + 1) (eP e1 e2) := ⟨fun x => by
    obtain ⟨a, h1, h2, h3⟩ := p.py x.1
    obtain ⟨b, f1, f2, f3⟩ := q.py x.2
    refine ⟨.tuple [a, b], ?_, by simp [PyData.canLay0, PyData.canLayAll0, h2, f2], by simp only [PyData.depth, PyData.depthAll]; omega⟩
    show (((py (e1 x.1)).bind fun x1 => ((py (e2 x.2)).bind fun x => (pyA []).map fun xs => x :: xs).map fun xs => x1 :: xs)).map PyData.tuple = _
    rw [h1, f1]; rfl, fun x y s t h1 h2 => by
    obtain ⟨a, h3, _⟩ := p.py x.1
    obtain ⟨b, f3, _⟩ := q.py x.2
    obtain ⟨a', h4, _⟩ := p.py y.1
    obtain ⟨b', f4, _⟩ := q.py y.2
    have h1 : (((py (e1 x.1)).bind fun x1 => ((py (e2 x.2)).bind fun x => (pyA []).map fun xs => x :: xs).map fun xs => x1 :: xs)).map PyData.tuple = some s := h1
    have h2 : (((py (e1 y.1)).bind fun x1 => ((py (e2 y.2)).bind fun x => (pyA []).map fun xs => x :: xs).map fun xs => x1 :: xs)).map PyData.tuple = some t := h2
    rw [h3, f3] at h1
    rw [h4, f4] at h2
    cases h1; cases h2
    have k1 := p.eqv x.1 y.1 a a' h3 h4
    have k2 := q.eqv x.2 y.2 b b' f3 f4
    simp only [PyData.eqv, PyData.eqvAll, Bool.and_eq_true, k1, k2, Bool.and_true]
    exact ⟨fun h => Prod.ext h.1 h.2, fun h => by rw [h]; exact ⟨rfl, rfl⟩⟩⟩
/-! ### in -/
theorem rf_inL {x : Int} {l : List Int} : RefR (inD (eI x) (eL eI l)) (.ok (decide (x ∈ l))) eB := inD_ints x l
theorem rf_inT {x : Int} {l : List Int} : RefR (inD (eI x) (eT eI l)) (.ok (decide (x ∈ l))) eB := inD_intsT x l
theorem rf_inQ {x : Int} {s : Sq Int} : RefR (inD (eI x) (eQ eI s)) (.ok (decide (x ∈ s.l))) eB := by
  unfold eQ
  cases s.tp
  · exact rf_inL
  · exact rf_inT
theorem rf_inR {x : Int} {l : List Int} : RefR (inD (eI x) (eR l)) (.ok (decide (x ∈ l))) eB := by
  have h := inD_ints x l
  rw [inD_lst, allSc_int] at h
  have E : inD (.int x) (.scr l) = if (D.int x).sc.isSome then .ok (.bl (l.any fun y => eqS (.int y) (.int x))) else .no := inD_scr _ _
  show inD (.int x) (.scr l) = _
  rw [E, ← any_ints (fun y => eqS y (.int x))]
  exact h
theorem rf_inP {x : Int} {p : Int × Int} : RefR (inD (eI x) (eP eI eI p)) (.ok (decide (x = p.1) || decide (x = p.2))) eB := by
  have h := inD_intsT x [p.1, p.2]
  refine h.trans ?_
  congr 2
  simp
theorem rf_nin {a b : D} {k : Bool} (h : RefR (inD a b) (.ok k) eB) : RefR (ninD a b) (.ok (!k)) eB := by
  have h : inD a b = .ok (.bl k) := h
  show (inD a b).bind notD = _
  rw [h]; rfl
/-! ### is -/
/-- never None -/
def NN (e : α → D) : Prop := ∀ a, isD (e a) .non = .ok (.bl false)
theorem nnI : NN eI := fun _ => rfl
theorem nnB : NN eB := fun _ => rfl
theorem nnZ : NN eZ := fun _ => rfl
theorem nnL : NN (eL e) := fun _ => rfl
theorem nnT : NN (eT e) := fun _ => rfl
theorem nnP : NN (eP e1 e2) := fun _ => rfl
theorem nnP3 : NN (eP3 e1 e2 e3) := fun _ => rfl
theorem nnP4 : NN (eP4 e1 e2 e3 e4) := fun _ => rfl
theorem nnW : NN eW := fun _ => rfl
theorem nnX : NN eX := fun _ => rfl
theorem rf_isO (h : NN e) {x : Option α} : RefR (isD (eO e x) .non) (.ok x.isNone) eB := by
  cases x with
  | none => exact rfl
  | some a => exact h a
theorem rf_isn {a b : D} {k : Bool} (h : RefR (isD a b) (.ok k) eB) : RefR (isnD a b) (.ok (!k)) eB := by
  have h : isD a b = .ok (.bl k) := h
  show (isD a b).bind notD = _
  rw [h]; rfl
theorem rf_isNN (h : NN e) {x : α} : RefR (isD (e x) .non) (.ok false) eB := h x
theorem rf_isB {a b : Bool} : RefR (isD (eB a) (eB b)) (.ok (decide (a = b))) eB := rfl
/-- what an optional value is -/
def unO : Option α → R α
  | some a => .ok a
  | none => .no
theorem ev_un {c : Ce} {f : F} {x : Option α} (h : EvE c f (.ok x) (eO e)) : EvE c f (unO x) e := fun env H => by
  cases x with
  | none => trivial
  | some a => exact h env H
theorem ev_unb {c : Ce} {f : F} {r : R (Option α)} (h : EvE c f r (eO e)) : EvE c f (r.bind unO) e := by
  cases r with
  | ok x => exact ev_un h
  | er n p => exact fun env H => h env H
  | no => exact fun _ _ => trivial
/-! ### webs -/
@[irreducible] def mkW (many : Int) (ts : List (Int × Int)) : R W := if badMany many ts then .er 4 [] else if ts.any (badTie many) then .er 3 [] else .ok ⟨many, ts⟩
theorem rf_web {d : D} {many : Int} {ts : List (Int × Int)} (h : tiesD d = some ts) : RefR (webD [eI many, d]) (mkW many ts) eW := by
  have E : webD [eI many, d] = if badMany many ts then R.er 4 [] else if ts.any (badTie many) then R.er 3 [] else .ok (webO many ts) := by
    show (match tiesD d with
    | some ts => if badMany many ts then R.er 4 [] else if ts.any (badTie many) then R.er 3 [] else .ok (webO many ts)
    | none => .no) = _
    rw [h]
  rw [E]
  unfold mkW
  split
  · exact rfl
  · split
    · exact rfl
    · exact rfl
theorem rf_webL {many : Int} {ts : List (Int × Int)} : RefR (webD [eI many, eL (eP eI eI) ts]) (mkW many ts) eW := rf_web (pairsD_map ts)
theorem rf_webT {many : Int} {ts : List (Int × Int)} : RefR (webD [eI many, eT (eP eI eI) ts]) (mkW many ts) eW := rf_web (pairsD_map ts)
theorem rf_many {w : W} : RefR (atD 0 "many" (eW w)) (.ok w.many) eI := rfl
theorem rf_ties {w : W} : RefR (atD 0 "ties" (eW w)) (.ok w.ties) (eT (eP eI eI)) := rfl
/-! ### data without lists -/
def LF (e : α → D) : Prop := ∀ a, lf (e a) = true
theorem lfI : LF eI := fun _ => rfl
theorem lfB : LF eB := fun _ => rfl
theorem lfZ : LF eZ := fun _ => rfl
theorem lfN : LF eN := fun _ => rfl
theorem lf_all (h : LF e) : ∀ l : List α, lfA (l.map e) = true
  | [] => rfl
  | a :: l => by
    show (lf (e a) && lfA (l.map e)) = true
    rw [h a, lf_all h l]; rfl
theorem lfT (h : LF e) : LF (eT e) := fun l => lf_all h l
theorem lfP (h : LF e1) (k : LF e2) : LF (eP e1 e2) := fun p => by
  show (lf (e1 p.1) && (lf (e2 p.2) && true)) = true
  rw [h, k]; rfl
theorem lfP3 (h : LF e1) (k : LF e2) (l : LF e3) : LF (eP3 e1 e2 e3) := fun p => by
  show (lf (e1 p.1) && (lf (e2 p.2.1) && (lf (e3 p.2.2) && true))) = true
  rw [h, k, l]; rfl
theorem lfW : LF eW := fun w => by
  show (true && (lf (.tup (w.ties.map encP)) && true)) = true
  have := lf_encP w.ties
  show (true && (lfA (w.ties.map encP) && true)) = true
  rw [this]; rfl
theorem lfO (h : LF e) : LF (eO e) := fun x => by
  cases x with
  | none => rfl
  | some a => exact h a
theorem ev_lfD {c : Ce} {f : F} {r : R α} (h : EvE c f r e) (k : LF e) : EvE c (f1 lfD f) r e := ev_tst h fun x => by unfold lfD; rw [if_pos (k x)]
theorem ev_lfL {c : Ce} {f : F} {r : R (List α)} (h : EvE c f r (eL e)) (k : LF e) : EvE c (f1 lfL f) r (eL e) := ev_tst h fun x => by
  show (if lfA (x.map e) then R.ok (D.lst (x.map e)) else .no) = _
  rw [if_pos (lf_all k x)]
/-! ### isinstance -/
theorem rf_is {T : String} {b : Bool} {x : α} (h : ∀ a, isiS T (e a) = .ok (.bl b)) : RefR (isiS T (e x)) (.ok b) eB := h x
theorem rf_isOpt {T : String} {b : Bool} {x : Option α} (h : ∀ a, isiS T (e a) = .ok (.bl b)) (hn : isiS T .non = .ok (.bl false)) : RefR (isiS T (eO e x)) (.ok (b && x.isSome)) eB := by
  cases x with
  | none => cases b <;> exact hn
  | some a => cases b <;> exact h a
theorem rf_isQ {x : Sq α} : RefR (isiS "list" (eQ e x)) (.ok (!x.tp)) eB := by
  unfold eQ
  cases x.tp <;> exact rfl
def isoTb (tb : List (Nat × Bool)) (k : Nat) : R Bool := if 1 < k then (match tb.lookup k with
  | some b => .ok b
  | none => .no) else .no
theorem rf_isoX {tb : List (Nat × Bool)} {k : Nat} : RefR (isoD tb (eX k)) (isoTb tb k) eB := by
  show RefR (if 1 < k then (match tb.lookup k with
    | some b => .ok (.bl b)
    | none => .no) else .no) _ _
  unfold isoTb
  by_cases h : 1 < k
  · rw [if_pos h, if_pos h]
    cases tb.lookup k with
    | none => trivial
    | some b => exact rfl
  · rw [if_neg h, if_neg h]; trivial
def isoW (tb : List (Nat × Bool)) : R Bool := match tb.lookup 0 with
  | some b => .ok b
  | none => .no
theorem rf_isoW {tb : List (Nat × Bool)} {w : W} : RefR (isoD tb (eW w)) (isoW tb) eB := by
  show RefR (if 0 ≤ 1 then (match tb.lookup 0 with
    | some b => .ok (.bl b)
    | none => .no) else .no) _ _
  rw [if_pos (by decide)]
  unfold isoW
  cases tb.lookup 0 with
  | none => trivial
  | some b => exact rfl
/-! ### count -/
theorem eqS_bl (a b : Bool) : eqS (.bl a) (.bl b) = decide (a = b) := by
  show (a == b) = decide (a = b)
  rw [Bool.beq_eq_decide_eq]
theorem allSc_bl : ∀ l : List Bool, allSc (l.map D.bl) = true
  | [] => rfl
  | b :: l => by show (true && allSc (l.map D.bl)) = true; rw [allSc_bl l]; rfl
theorem rf_cnt {l : List Int} {x : Int} : RefR (cntD (eL eI l) (eI x)) (.ok (l.count x : Int)) eI := by
  show RefR (if (D.int x).sc.isSome && allSc (l.map D.int) then .ok (.int ((l.map D.int).countP fun y => eqS y (.int x) : Nat)) else .no) _ _
  rw [allSc_int]
  show R.ok (D.int ((l.map D.int).countP fun y => eqS y (.int x) : Nat)) = _
  rw [List.countP_map]
  congr 3
theorem rf_cntB {l : List Bool} {x : Bool} : RefR (cntD (eL eB l) (eB x)) (.ok (l.count x : Int)) eI := by
  show RefR (if (D.bl x).sc.isSome && allSc (l.map D.bl) then .ok (.int ((l.map D.bl).countP fun y => eqS y (.bl x) : Nat)) else .no) _ _
  rw [allSc_bl]
  show R.ok (D.int ((l.map D.bl).countP fun y => eqS y (.bl x) : Nat)) = _
  rw [List.countP_map]
  congr 3
end
end BW
namespace BW
section
variable {Λ Γ Δ ρ α β τ : Type} {c ck : Ce} {g : G} {f : F} {ke : En → Prop} {e : ρ → D}
theorem ev_w {f : F} {r : R τ} {e : τ → D} (b : List Bool) (h : EvE ck f r e) (hc : ck = msk b c := by rfl) : EvE c f r e := fun env H => h env (hc ▸ H.msk b)
end
end BW
namespace BW
theorem RefR.get {τ : Type} {x : R D} {r : R τ} {e : τ → D} (h : RefR x r e) {a : τ} (k : r = .ok a) : x = .ok (e a) := by
  subst k
  exact h
end BW
/-! BTy4: reckoning with typed functions. -/
namespace BW
open PySem PySem.Spec PyProof.Rows L2
section
variable {Λ Γ Δ ρ α β τ : Type}
/-! ### values -/
theorem ixT_some {l : List α} {i : Nat} {a : α} (h : l[i]? = some a) : ixT l (i : Int) = .ok a := by
  unfold ixT
  rw [atI_nat h]
theorem ixT_nat {l : List α} {i : Nat} (h : i < l.length) : ixT l (i : Int) = .ok l[i] := ixT_some (List.getElem?_eq_getElem h)
theorem ixT_int {l : List α} {i : Int} (h0 : 0 ≤ i) (h : i.toNat < l.length) : ixT l i = .ok l[i.toNat] := by
  obtain ⟨j, rfl⟩ := Int.eq_ofNat_of_zero_le h0
  exact ixT_nat (by simpa using h)
theorem ixT_zero {a : α} {l : List α} : ixT (a :: l) 0 = .ok a := ixT_some (i := 0) rfl
theorem ixT_neg1 {l : List α} {a : α} : ixT (l ++ [a]) (-1) = .ok a := by
  unfold ixT atI ixN
  rw [if_neg (by omega), if_pos (by rw [List.length_append, List.length_singleton]; omega)]
  have : (-1 + ((l ++ [a]).length : Int)).toNat = l.length := by rw [List.length_append, List.length_singleton]; omega
  rw [this]
  simp
@[simp] theorem appT_ok {l : List α} {x : α} (h : l.length < 16777216) : appT l x = .ok (l ++ [x]) := by unfold appT; rw [if_pos h]
@[simp] theorem extT_ok {l m : List α} (h : l.length + m.length ≤ 16777216) : extT l m = .ok (l ++ m) := by unfold extT; rw [if_pos h]
@[simp] theorem catT_ok {l m : List α} (h : l.length + m.length ≤ 16777216) : catT l m = .ok (l ++ m) := by unfold catT; rw [if_pos h]
theorem rep1_ok {a : α} {k : Nat} (h : k ≤ 16777216) : rep1 a (k : Int) = .ok (List.replicate k a) := by
  unfold rep1
  rw [if_pos ⟨by omega, by omega⟩, Int.toNat_natCast]
theorem rep1_int {a : α} {k : Int} (h0 : 0 ≤ k) (h : k ≤ 16777216) : rep1 a k = .ok (List.replicate k.toNat a) := by
  obtain ⟨j, rfl⟩ := Int.eq_ofNat_of_zero_le h0
  rw [rep1_ok (by omega), Int.toNat_natCast]
@[simp] theorem fdivT_ok {i j : Int} (h : 0 < j) (h2 : j ≤ 10 ^ 60) : fdivT i j = .ok (i / j) := by
  unfold fdivT
  rw [if_pos ⟨h, log_lit h h2⟩]
@[simp] theorem modT_ok {i j : Int} (h : 0 < j) : modT i j = .ok (i % j) := by unfold modT; rw [if_pos h]
@[simp] theorem shrT_ok {i j : Int} (h : 0 ≤ j) : shrT i j = .ok (i / 2 ^ j.toNat) := by unfold shrT; rw [if_pos h]
theorem shrT_nat {i : Int} {j : Nat} : shrT i (j : Int) = .ok (i / 2 ^ j) := by rw [shrT_ok (by omega), Int.toNat_natCast]
@[simp] theorem mulT_l {i j : Int} (h : smallI i = true) : mulT i j = .ok (i * j) := by unfold mulT; rw [h]; rfl
@[simp] theorem mulT_r {i j : Int} (h : smallI j = true) : mulT i j = .ok (i * j) := by unfold mulT; rw [h]; simp
theorem log2_lt_pow {n k : Nat} (hk : 0 < k) (h : n < 2 ^ k) : n.log2 < k := by
  by_cases h0 : n = 0
  · subst h0
    have : Nat.log2 0 = 0 := by decide
    omega
  · exact (Nat.log2_lt h0).mpr h
theorem mulT_big {i j : Int} (h : i.natAbs < 2 ^ 400000) (h2 : j.natAbs < 2 ^ 400000) : mulT i j = .ok (i * j) := by
  have a := log2_lt_pow (k := 400000) (by omega) h
  have b := log2_lt_pow (k := 400000) (by omega) h2
  unfold mulT
  rw [if_pos]
  have : i.natAbs.log2 + j.natAbs.log2 < 1000000 := by omega
  simp [this]
theorem rangeT_nat {n : Nat} (h : n ≤ 16777216) : rangeT (n : Int) = .ok (rangeI 0 n) := by
  unfold rangeT
  rw [if_pos ⟨by omega, by omega⟩, Int.toNat_natCast]
@[simp] theorem rangeT_ok {n : Int} (h0 : 0 ≤ n) (h : n ≤ 16777216) : rangeT n = .ok (rangeI 0 n.toNat) := by
  obtain ⟨j, rfl⟩ := Int.eq_ofNat_of_zero_le h0
  rw [rangeT_nat (by omega), Int.toNat_natCast]
@[simp] theorem range2T_ok {i n : Int} (a0 : 0 ≤ i) (a : i ≤ 16777216) (h0 : 0 ≤ n) (h : n ≤ 16777216) : range2T i n = .ok (rangeI i (n - i).toNat) := by
  unfold range2T
  rw [if_pos ⟨by omega, by omega, by omega, by omega⟩]
@[simp] theorem rgT_ok {n : Int} (h0 : 0 ≤ n) (h : n ≤ 16777216) : rgT n = .ok (rangeI 0 n.toNat) := by unfold rgT; rw [if_pos ⟨h0, h⟩]
theorem rgT_nat {n : Nat} (h : n ≤ 16777216) : rgT (n : Int) = .ok (rangeI 0 n) := by rw [rgT_ok (by omega) (by omega), Int.toNat_natCast]
@[simp] theorem rg2T_ok {i n : Int} (a0 : 0 ≤ i) (a : i ≤ 16777216) (h0 : 0 ≤ n) (h : n ≤ 16777216) : rg2T i n = .ok (rangeI i (n - i).toNat) := by unfold rg2T; rw [if_pos ⟨⟨a0, a⟩, h0, h⟩]
@[simp] theorem rangeI_len (lo : Int) (n : Nat) : (rangeI lo n).length = n := by unfold rangeI; simp
theorem rangeI_get {lo : Int} {n i : Nat} (h : i < n) : (rangeI lo n)[i]? = some (lo + (i : Int)) := by
  unfold rangeI
  rw [List.getElem?_map, List.getElem?_range h]
  rfl
theorem rangeI_0 (n : Nat) : rangeI 0 n = (List.range n).map fun k : Nat => (k : Int) := by
  unfold rangeI
  exact List.map_congr_left fun k _ => by rw [Int.zero_add]
theorem mem_rangeI {lo x : Int} {n : Nat} : x ∈ rangeI lo n ↔ lo ≤ x ∧ x < lo + (n : Int) := by
  unfold rangeI
  rw [List.mem_map]
  constructor
  · rintro ⟨k, hk, rfl⟩
    have := List.mem_range.mp hk
    omega
  · intro h
    exact ⟨(x - lo).toNat, List.mem_range.mpr (by omega), by omega⟩
theorem rangeI_succ (lo : Int) (n : Nat) : rangeI lo (n + 1) = rangeI lo n ++ [lo + (n : Int)] := by
  unfold rangeI
  rw [List.range_succ, List.map_append]
  rfl
theorem mkW_ok {m : Int} {ts : List (Int × Int)} (h0 : 1 ≤ m) (hm : m ≤ 20) (hl : ts.length ≤ 40) (hi : ∀ t ∈ ts, 0 ≤ t.1 ∧ t.1 < m ∧ 0 ≤ t.2 ∧ t.2 < m) : mkW m ts = .ok ⟨m, ts⟩ := by
  unfold mkW
  have e1 : badMany m ts = false := by unfold badMany; simp; omega
  have e2 : ts.any (badTie m) = false := by
    refine List.any_eq_false.mpr fun t ht => ?_
    obtain ⟨h1, h2, h3, h4⟩ := hi t ht
    unfold badTie badEnd
    simp
    omega
  rw [e1, e2]
  rfl
@[simp] theorem unO_some (a : α) : unO (some a) = .ok a := id rfl
@[simp] theorem cutL_take (l : List α) {k : Int} (h : 0 ≤ k) : cutL l none (some k) = l.take k.toNat := cut_take l h
@[simp] theorem cutL_drop (l : List α) {k : Int} (h : 0 ≤ k) : cutL l (some k) none = l.drop k.toNat := cut_drop l h
theorem eqZ_lit {a b : Str} (ha : PyData.strOk a = true) (hb : PyData.strOk b = true) : eqZ a b = .ok (decide (a = b)) := by
  unfold eqZ
  rw [ha, hb]
  rfl
/-! ### comprehensions -/
theorem fLcT_fm {tst : α → R Bool} {y : α → R β} {l : List α} (p : α → Bool) (f : α → β) (hl : l.length ≤ 16777216) (h1 : ∀ a ∈ l, tst a = .ok (p a)) (h2 : ∀ a ∈ l, p a = true → y a = .ok (f a)) : fLcT tst y l = .ok ((l.filter p).map f) := by
  unfold fLcT
  rw [if_pos hl]
  have key : ∀ m : List α, (∀ a ∈ m, a ∈ l) → lcT tst y m = .ok ((m.filter p).map f) := by
    intro m
    induction m with
    | nil => intro _; rfl
    | cons a m ih =>
      intro hm
      have ih := ih fun x hx => hm x (List.mem_cons_of_mem _ hx)
      have ha := hm a List.mem_cons_self
      unfold lcT
      rw [h1 a ha, ih]
      cases hp : p a with
      | true =>
        rw [h2 a ha hp, List.filter_cons_of_pos hp]
        rfl
      | false =>
        rw [List.filter_cons_of_neg (by rw [hp]; decide)]
        rfl
  rw [key l fun _ h => h]
  rfl
theorem fLcT_map {y : α → R β} {l : List α} (f : α → β) (hl : l.length ≤ 16777216) (h2 : ∀ a ∈ l, y a = .ok (f a)) : fLcT (fun _ => .ok true) y l = .ok (l.map f) := by
  rw [fLcT_fm (fun _ => true) f hl (fun _ _ => rfl) fun a ha _ => h2 a ha, List.filter_eq_self.mpr fun _ _ => rfl]
theorem fLcT_flt {tst : α → R Bool} {y : α → R α} {l : List α} (p : α → Bool) (hl : l.length ≤ 16777216) (h1 : ∀ a ∈ l, tst a = .ok (p a)) (h2 : ∀ a ∈ l, p a = true → y a = .ok a) : fLcT tst y l = .ok (l.filter p) := by
  rw [fLcT_fm p id hl h1 h2, List.map_id]
/-! ### loops -/
def TR.lp (t : TR Γ Γ ρ) (k : Γ → TR Λ Γ ρ) : TR Λ Γ ρ := match t with
  | .nx g => k g
  | .ct g => k g
  | .bk g => .nx g
  | .rt d => .rt d
  | .er c p => .er c p
  | .no => .no
@[simp] theorem lp_nx (g : Γ) (k : Γ → TR Λ Γ ρ) : TR.lp (.nx g) k = k g := id rfl
@[simp] theorem lp_ct (g : Γ) (k : Γ → TR Λ Γ ρ) : TR.lp (.ct g) k = k g := id rfl
@[simp] theorem lp_bk (g : Γ) (k : Γ → TR Λ Γ ρ) : TR.lp (.bk g) k = .nx g := id rfl
@[simp] theorem lp_rt (g : ρ) (k : Γ → TR Λ Γ ρ) : TR.lp (.rt g) k = .rt g := id rfl
@[simp] theorem lp_er (c p) (k : Γ → TR Λ Γ ρ) : TR.lp (.er c p) k = .er c p := id rfl
@[simp] theorem forT_nil (b : α → Γ → TR Γ Γ ρ) (g : Γ) : (forT b [] g : TR Λ Γ ρ) = .nx g := id rfl
theorem forT_cons (b : α → Γ → TR Γ Γ ρ) (a : α) (l : List α) (g : Γ) : (forT b (a :: l) g : TR Λ Γ ρ) = (b a g).lp (forT b l) := by
  show (match b a g with
    | .nx g => forT b l g
    | .ct g => forT b l g
    | .bk g => .nx g
    | .rt d => .rt d
    | .er c p => .er c p
    | .no => .no : TR Λ Γ ρ) = _
  cases b a g <;> rfl
theorem forT_app (b : α → Γ → TR Γ Γ ρ) (l m : List α) (g g' : Γ) (h : (forT b l g : TR Γ Γ ρ) = .nx g') (hb : ∀ a g x, b a g ≠ .bk x) : (forT b (l ++ m) g : TR Λ Γ ρ) = forT b m g' := by
  induction l generalizing g with
  | nil => injection h with h; subst h; rfl
  | cons a l ih =>
    rw [List.cons_append, forT_cons]
    rw [forT_cons] at h
    cases hk : b a g with
    | nx x => rw [hk] at h; exact ih x h
    | ct x => rw [hk] at h; exact ih x h
    | bk x => exact absurd hk (hb _ _ _)
    | rt d => rw [hk] at h; cases h
    | er c p => rw [hk] at h; cases h
    | no => rw [hk] at h; cases h
/-- a for, by what holds between turns and where it is left -/
theorem forT_rule {b : α → Γ → TR Γ Γ ρ} {l : List α} {g0 : Γ} (Iv : Nat → Γ → Prop) (Out : TR Λ Γ ρ → Prop) (h : ∀ i a g, l[i]? = some a → Iv i g → (∃ g', (b a g = .nx g' ∨ b a g = .ct g') ∧ Iv (i + 1) g') ∨ (∃ g', b a g = .bk g' ∧ Out (.nx g')) ∨ (∃ d, b a g = .rt d ∧ Out (.rt d)) ∨ ∃ c p, b a g = .er c p ∧ Out (.er c p)) (hd : ∀ g, Iv l.length g → Out (.nx g)) (h0 : Iv 0 g0) : Out (forT b l g0) := by
  have key : ∀ (m : List α) (i : Nat) (g : Γ), l.drop i = m → i ≤ l.length → Iv i g → Out (forT b m g) := by
    intro m
    induction m with
    | nil =>
      intro i g hl hi hv
      have : i = l.length := by
        have := congrArg List.length hl
        rw [List.length_drop, List.length_nil] at this
        omega
      subst this
      exact hd g hv
    | cons a m ih =>
      intro i g hl hi hv
      have hlt : i < l.length := by
        have := congrArg List.length hl
        rw [List.length_drop, List.length_cons] at this
        omega
      have ha : l[i]? = some a := by
        have := congrArg (fun z => z[0]?) hl
        simpa [List.getElem?_drop] using this
      have hl2 : l.drop (i + 1) = m := by
        have := congrArg (List.drop 1) hl
        simpa [List.drop_drop, Nat.add_comm] using this
      rw [forT_cons]
      rcases h i a g ha hv with ⟨g', h1 | h1, h2⟩ | ⟨g', h1, h2⟩ | ⟨d, h1, h2⟩ | ⟨c, p, h1, h2⟩
      · rw [h1]; exact ih (i + 1) g' hl2 hlt h2
      · rw [h1]; exact ih (i + 1) g' hl2 hlt h2
      · rw [h1]; exact h2
      · rw [h1]; exact h2
      · rw [h1]; exact h2
  exact key l 0 g0 rfl (Nat.zero_le _) h0
/-- .. that runs through -/
theorem forT_inv {b : α → Γ → TR Γ Γ ρ} {l : List α} {g0 : Γ} (Iv : Nat → Γ → Prop) (h : ∀ i a g, l[i]? = some a → Iv i g → ∃ g', (b a g = .nx g' ∨ b a g = .ct g') ∧ Iv (i + 1) g') (h0 : Iv 0 g0) : ∃ g, (forT b l g0 : TR Λ Γ ρ) = .nx g ∧ Iv l.length g :=
  forT_rule (Λ := Λ) Iv (fun r => ∃ g, r = .nx g ∧ Iv l.length g) (fun i a g ha hi => .inl (h i a g ha hi)) (fun g hg => ⟨g, rfl, hg⟩) h0
/-- .. whose state is known turn by turn -/
theorem forT_st {b : α → Γ → TR Γ Γ ρ} {l : List α} (f : Nat → Γ) (h : ∀ i a, l[i]? = some a → b a (f i) = .nx (f (i + 1)) ∨ b a (f i) = .ct (f (i + 1))) : (forT b l (f 0) : TR Λ Γ ρ) = .nx (f l.length) := by
  obtain ⟨g, h1, h2⟩ := forT_inv (Λ := Λ) (b := b) (l := l) (g0 := f 0) (fun i g => g = f i) (fun i a g ha hg => ⟨f (i + 1), by subst hg; exact h i a ha, rfl⟩) rfl
  rw [h1, h2]
theorem forT_rg {b : Int → Γ → TR Γ Γ ρ} {n : Nat} (f : Nat → Γ) (h : ∀ i : Nat, i < n → b (i : Int) (f i) = .nx (f (i + 1)) ∨ b (i : Int) (f i) = .ct (f (i + 1))) : (forT b (rangeI 0 n) (f 0) : TR Λ Γ ρ) = .nx (f n) := by
  have k := forT_st (Λ := Λ) (b := b) (l := rangeI 0 n) f fun i a ha => by
    have hl : i < n := by
      have := (List.getElem?_eq_some_iff.mp ha).1
      rwa [rangeI_len] at this
    rw [rangeI_get hl] at ha
    cases ha
    rw [Int.zero_add]
    exact h i hl
  rwa [rangeI_len] at k
theorem forT_rgI {b : Int → Γ → TR Γ Γ ρ} {n : Nat} {g0 : Γ} (Iv : Nat → Γ → Prop) (h : ∀ (i : Nat) g, i < n → Iv i g → ∃ g', (b (i : Int) g = .nx g' ∨ b (i : Int) g = .ct g') ∧ Iv (i + 1) g') (h0 : Iv 0 g0) : ∃ g, (forT b (rangeI 0 n) g0 : TR Λ Γ ρ) = .nx g ∧ Iv n g := by
  have k := forT_inv (Λ := Λ) (b := b) (l := rangeI 0 n) Iv (fun i a g ha hg => by
    have hl : i < n := by
      have := (List.getElem?_eq_some_iff.mp ha).1
      rwa [rangeI_len] at this
    rw [rangeI_get hl] at ha
    cases ha
    rw [Int.zero_add]
    exact h i g hl hg) h0
  rwa [rangeI_len] at k
/-- .. as a fold -/
theorem forT_fold {b : α → Γ → TR Γ Γ ρ} {l : List α} {g0 : Γ} (f : Γ → α → Γ) (P : Γ → Prop) (h : ∀ a g, a ∈ l → P g → (b a g = .nx (f g a) ∨ b a g = .ct (f g a)) ∧ P (f g a)) (h0 : P g0) : (forT b l g0 : TR Λ Γ ρ) = .nx (l.foldl f g0) ∧ P (l.foldl f g0) := by
  induction l generalizing g0 with
  | nil => exact ⟨rfl, h0⟩
  | cons a l ih =>
    obtain ⟨h1, h2⟩ := h a g0 List.mem_cons_self h0
    rw [forT_cons, List.foldl_cons]
    have k := ih (fun x g hx hg => h x g (List.mem_cons_of_mem _ hx) hg) h2
    rcases h1 with h1 | h1 <;> rw [h1] <;> exact k
/-- .. that changes nothing -/
theorem forT_id {b : α → Γ → TR Γ Γ ρ} {l : List α} {g0 : Γ} (h : ∀ a ∈ l, b a g0 = .nx g0 ∨ b a g0 = .ct g0) : (forT b l g0 : TR Λ Γ ρ) = .nx g0 := by
  induction l with
  | nil => rfl
  | cons a l ih =>
    rw [forT_cons]
    have k := ih fun x hx => h x (List.mem_cons_of_mem _ hx)
    rcases h a List.mem_cons_self with h1 | h1 <;> rw [h1] <;> exact k
/-- .. that seeks -/
theorem forT_seek {b : α → Γ → TR Γ Γ ρ} {l : List α} {g0 : Γ} (p : α → Bool) {d : ρ} (h : ∀ a ∈ l, (p a = true ∧ b a g0 = .rt d) ∨ (p a = false ∧ (b a g0 = .nx g0 ∨ b a g0 = .ct g0))) : (forT b l g0 : TR Λ Γ ρ) = cond (l.any p) (.rt d) (.nx g0) := by
  induction l with
  | nil => rfl
  | cons a l ih =>
    rw [forT_cons, List.any_cons]
    have k := ih fun x hx => h x (List.mem_cons_of_mem _ hx)
    rcases h a List.mem_cons_self with ⟨h1, h2⟩ | ⟨h1, h2⟩
    · rw [h1, h2]; rfl
    · rw [h1, Bool.false_or, ← k]
      rcases h2 with h2 | h2 <;> rw [h2] <;> rfl
theorem forT_seekE {b : α → Γ → TR Γ Γ ρ} {l : List α} {g0 : Γ} (p : α → Bool) {c : Nat} {q : List D} (h : ∀ a ∈ l, (p a = true ∧ b a g0 = .er c q) ∨ (p a = false ∧ (b a g0 = .nx g0 ∨ b a g0 = .ct g0))) : (forT b l g0 : TR Λ Γ ρ) = cond (l.any p) (.er c q) (.nx g0) := by
  induction l with
  | nil => rfl
  | cons a l ih =>
    rw [forT_cons, List.any_cons]
    have k := ih fun x hx => h x (List.mem_cons_of_mem _ hx)
    rcases h a List.mem_cons_self with ⟨h1, h2⟩ | ⟨h1, h2⟩
    · rw [h1, h2]; rfl
    · rw [h1, Bool.false_or, ← k]
      rcases h2 with h2 | h2 <;> rw [h2] <;> rfl
/-- a while, by what holds between turns and a measure that falls -/
theorem whT_rule {t : Γ → R Bool} {b : Γ → TR Γ Γ ρ} (Iv : Γ → Prop) (ms : Γ → Nat) (Out : TR Λ Γ ρ → Prop) (h : ∀ g, Iv g → (t g = .ok false ∧ Out (.nx g)) ∨ (t g = .ok true ∧ ((∃ g', (b g = .nx g' ∨ b g = .ct g') ∧ Iv g' ∧ ms g' < ms g) ∨ (∃ g', b g = .bk g' ∧ Out (.nx g')) ∨ (∃ d, b g = .rt d ∧ Out (.rt d)) ∨ ∃ c p, b g = .er c p ∧ Out (.er c p)))) : ∀ (n : Nat) (g : Γ), Iv g → ms g < n → Out (whT t b n g)
  | 0, _, _, hn => absurd hn (Nat.not_lt_zero _)
  | n + 1, g, hv, hn => by
    have E : (whT t b (n + 1) g : TR Λ Γ ρ) = TR.ob (t g) fun k => cond k ((b g).lp (whT t b n)) (.nx g) := by
      have : ∀ k, (cond k (match b g with
        | .nx g => whT t b n g
        | .ct g => whT t b n g
        | .bk g => .nx g
        | .rt d => .rt d
        | .er c p => .er c p
        | .no => .no : TR Λ Γ ρ) (.nx g)) = cond k ((b g).lp (whT t b n)) (.nx g) := by
        intro k
        cases k
        · rfl
        · show (match b g with
            | .nx g => whT t b n g
            | .ct g => whT t b n g
            | .bk g => .nx g
            | .rt d => .rt d
            | .er c p => .er c p
            | .no => .no : TR Λ Γ ρ) = (b g).lp (whT t b n)
          cases b g <;> rfl
      show (TR.ob (t g) fun k => _) = _
      exact congrArg (TR.ob (t g)) (funext this)
    rw [E]
    rcases h g hv with ⟨h1, h2⟩ | ⟨h1, h2⟩
    · rw [h1]; exact h2
    · rw [h1, ob_ok]
      show Out ((b g).lp (whT t b n))
      rcases h2 with ⟨g', h3 | h3, h4, h5⟩ | ⟨g', h3, h4⟩ | ⟨d, h3, h4⟩ | ⟨c, p, h3, h4⟩
      · rw [h3]; exact whT_rule Iv ms Out h n g' h4 (by omega)
      · rw [h3]; exact whT_rule Iv ms Out h n g' h4 (by omega)
      · rw [h3]; exact h4
      · rw [h3]; exact h4
      · rw [h3]; exact h4
theorem whT_inv {t : Γ → R Bool} {b : Γ → TR Γ Γ ρ} {n : Nat} {g0 : Γ} (Iv : Γ → Prop) (ms : Γ → Nat) (h : ∀ g, Iv g → t g = .ok false ∨ (t g = .ok true ∧ ∃ g', (b g = .nx g' ∨ b g = .ct g') ∧ Iv g' ∧ ms g' < ms g)) (h0 : Iv g0) (hn : ms g0 < n) : ∃ g, (whT t b n g0 : TR Λ Γ ρ) = .nx g ∧ Iv g ∧ t g = .ok false :=
  whT_rule (Λ := Λ) Iv ms (fun r => ∃ g, r = .nx g ∧ Iv g ∧ t g = .ok false) (fun g hg => by
    rcases h g hg with h1 | ⟨h1, h2⟩
    · exact .inl ⟨h1, g, rfl, hg, h1⟩
    · exact .inr ⟨h1, .inl h2⟩) n g0 h0 hn
end
end BW
/-! BTy5: more operations, typed. -/
namespace BW
open PySem PySem.Spec PyProof.Rows L2
section
variable {α β γ τ : Type} {e : α → D} {e1 : α → D} {e2 : β → D}
theorem zipL_map (l : List α) (m : List β) : zipL (l.map e1) (m.map e2) = (l.zip m).map (eP e1 e2) := by
  unfold zipL
  rw [List.zip_map, List.map_map]
  rfl
theorem rf_zip {x y : D} {l : List α} {m : List β} (h1 : zipD.seqZ x = .ok (.lst (l.map e1))) (h2 : zipD.seqZ y = .ok (.lst (m.map e2))) : RefR (zipD x y) (.ok (l.zip m)) (eL (eP e1 e2)) := by
  have E : zipD x y = .ok (.lst (zipL (l.map e1) (m.map e2))) := by
    unfold zipD
    rw [h1, h2]
    rfl
  show zipD x y = .ok (.lst ((l.zip m).map (eP e1 e2)))
  rw [E, zipL_map]
theorem sz_L {l : List α} : zipD.seqZ (eL e l) = .ok (.lst (l.map e)) := rfl
theorem sz_T {l : List α} : zipD.seqZ (eT e l) = .ok (.lst (l.map e)) := rfl
theorem sz_Q {s : Sq α} : zipD.seqZ (eQ e s) = .ok (.lst (s.l.map e)) := by
  unfold eQ
  cases s.tp <;> rfl
end
end BW
/-! BTy6: counts of pairs, a script turned about, ranges with a step. -/
namespace BW
variable {α β τ : Type} {c : Ce} {fa fb : F}
def cnt2D : D → D → R D
  | .lst l, x => cntD (.lst l) x
  | .tup l, x => cntTD (.tup l) x
  | _, _ => .no
theorem ev_cnt {ra : R α} {r : R τ} {e1 : α → D} {e : τ → D} (h1 : EvE c fa ra e1) (hs : ∀ x, ∃ l, e1 x = .lst l ∨ e1 x = .tup l) (h : EvE c (f2 cnt2D fa fb) r e) (hr : ra = .no → r = .no := by intro h; first | cases h | (rw [h]; rfl)) : EvE c (fCnt fa fb) r e := fun env H => by
  by_cases hn : ra = .no
  · rw [hr hn]; exact trivial
  have k1 := h1 env H
  have k := h env H
  have q : fCnt fa fb env = f2 cnt2D fa fb env := by
    unfold fCnt f2
    cases ra with
    | ok x =>
      have k2 : fa env = .ok (e1 x) := k1
      rw [k2]
      obtain ⟨l, y | y⟩ := hs x <;> rw [y] <;> rfl
    | er a p => have k2 : fa env = .er a p := k1; rw [k2]; rfl
    | no => exact absurd rfl hn
  rw [q]
  exact k
theorem rf_cnt2 {l : List Int} {x : Int} : RefR (cnt2D (eL eI l) (eI x)) (.ok (l.count x : Int)) eI := rf_cnt
theorem rf_cnt2B {l : List Bool} {x : Bool} : RefR (cnt2D (eL eB l) (eB x)) (.ok (l.count x : Int)) eI := rf_cntB
theorem rf_cntP {p : Int × Int} {x : Int} : RefR (cnt2D (eP eI eI p) (eI x)) (.ok (cond (decide (p.1 = x)) (1 : Int) 0 + cond (decide (p.2 = x)) 1 0)) eI := by
  show R.ok (D.int (([p.1, p.2].map D.int).countP fun y => eqS y (.int x) : Nat)) = R.ok (D.int _)
  have h : ∀ a : Int, eqS (.int a) (.int x) = decide (a = x) := fun a => by
    show (a == x) = _
    rfl
  have e1 : ([p.1, p.2].map D.int).countP (fun y => eqS y (.int x)) = ([p.1, p.2].countP fun a => decide (a = x)) := by
    rw [List.countP_map]
    exact List.countP_congr fun a _ => by rw [Function.comp_apply, h a]
  rw [e1, List.countP_cons, List.countP_cons, List.countP_nil]
  congr 2
  by_cases h1 : p.1 = x <;> by_cases h2 : p.2 = x <;> simp [h1, h2]
theorem rf_revR {l : List Int} : RefR (revS (eR l)) (.ok l.reverse) (eL eI) := rfl
theorem rf_revL {e : α → D} {l : List α} : RefR (revS (eL e l)) (.ok l.reverse) (eL e) := by
  show R.ok (D.lst (l.map e).reverse) = R.ok (D.lst (l.reverse.map e))
  rw [List.map_reverse]
/-- range(lo, m, c) -/
@[irreducible] def range3T (lo m c : Int) : R (List Int) := if -(2 ^ 29) ≤ lo ∧ lo < 2 ^ 29 ∧ -(2 ^ 29) ≤ m ∧ m < 2 ^ 29 ∧ 1 ≤ c ∧ c < 2 ^ 29 then .ok (rgS lo m c) else .no
theorem rf_range3 {lo m c : Int} : RefR (range3D [eI lo, eI m, eI c]) (range3T lo m c) (eL eI) := by
  unfold range3T
  show RefR (if -(2 ^ 29) ≤ lo ∧ lo < 2 ^ 29 ∧ -(2 ^ 29) ≤ m ∧ m < 2 ^ 29 ∧ 1 ≤ c ∧ c < 2 ^ 29 then R.ok (D.lst ((rgS lo m c).map D.int)) else .no) _ _
  split
  · exact rfl
  · exact trivial
theorem range3T_ok {lo m c : Int} (h0 : 0 ≤ lo) (h1 : lo < 536870912) (h2 : 0 ≤ m) (h3 : m < 536870912) (h4 : 1 ≤ c) (h5 : c < 536870912) : range3T lo m c = .ok (rgS lo m c) := by
  unfold range3T
  rw [if_pos (by omega)]
theorem mem_rgS {lo m c x : Int} (hc : 1 ≤ c) (h : x ∈ rgS lo m c) : lo ≤ x ∧ x < m := by
  unfold rgS at h
  obtain ⟨k, hk, rfl⟩ := List.mem_map.mp h
  have hk := List.mem_range.mp hk
  unfold PySem.Builtin.Range.rangeSize at hk
  rw [if_pos (show c > 0 by omega)] at hk
  have h0 : 0 ≤ (k : Int) * c := Int.mul_nonneg (by omega) (by omega)
  split at hk
  · have h1 := Int.ediv_mul_le (m - lo - 1) (show c ≠ 0 by omega)
    have h2 : (k : Int) ≤ (m - lo - 1) / c := by omega
    have h3 := Int.mul_le_mul_of_nonneg_right h2 (show 0 ≤ c by omega)
    omega
  · omega
theorem ev_lend {f : F} {i : Nat} {l : List D} {r : R α} {e : α → D} (h : c[i]? = some (some (.mu l))) (hl : LF e) (k : EvE (c.set i (some (.im (.lst l)))) f r e) : EvE c (fLend i f) r e := fun env H => by
  have q := H.get h
  have k1 := k _ (H.set i _)
  have E : fLend i f env = (f (env.set i (.im (.lst l)))).bind lfD := by unfold fLend frzE; rw [q]
  rw [E]
  cases r with
  | ok d =>
    have k2 : f (env.set i (.im (.lst l))) = .ok (e d) := k1
    rw [k2]
    show lfD (e d) = _
    unfold lfD
    rw [if_pos (hl d)]
  | er a p =>
    have k2 : f (env.set i (.im (.lst l))) = .er a p := k1
    rw [k2]
    exact rfl
  | no => trivial
theorem ref_defO {Γ ρ : Type} {n : Nat} {g : G} {l : List D} {d : D} {t : TR Empty Γ ρ} {dflt : R ρ} {out : Γ → Ce} {c : Ce} {e : ρ → D} (hc : Has c (envO n l d)) (h : Sim c g t out (fun x => nomatch x) keT e) (hd : (∃ d, dflt = .ok d ∧ e d = .non) ∨ dflt = .no) : RefR (defO n g [.lst l, d]) (t.out dflt) e := by
  have k := h _ hc
  show RefR (outD (g (envO n l d))) _ _
  cases t with
  | nx x =>
    obtain ⟨e', a, b⟩ := k
    rw [a]
    rcases hd with ⟨d, rfl, hd⟩ | rfl
    · show R.ok D.non = .ok (e d)
      rw [hd]
    · trivial
  | bk x => exact nomatch x
  | ct x => exact nomatch x
  | rt d =>
    have k : g (envO n l _) = .rt (e d) := k
    rw [k]
    exact rfl
  | er m p =>
    obtain ⟨e', a, b⟩ := k
    rw [a]
    exact rfl
  | no => trivial
/-! one of two kinds -/
def eU (e1 : α → D) (e2 : β → D) : α ⊕ β → D
  | .inl a => e1 a
  | .inr b => e2 b
def unL : α ⊕ β → R α
  | .inl a => .ok a
  | .inr _ => .no
def unR : α ⊕ β → R β
  | .inr a => .ok a
  | .inl _ => .no
theorem ev_unL {f : F} {e1 : α → D} {e2 : β → D} {x : α ⊕ β} (h : EvE c f (.ok x) (eU e1 e2)) : EvE c f (unL x) e1 := fun env H => by
  cases x with
  | inr b => trivial
  | inl a => exact h env H
theorem ev_unR {f : F} {e1 : α → D} {e2 : β → D} {x : α ⊕ β} (h : EvE c f (.ok x) (eU e1 e2)) : EvE c f (unR x) e2 := fun env H => by
  cases x with
  | inl b => trivial
  | inr a => exact h env H
@[simp] theorem unL_ok (a : α) : unL (.inl a : α ⊕ β) = .ok a := id rfl
@[simp] theorem unR_ok (a : β) : unR (.inr a : α ⊕ β) = .ok a := id rfl
end BW
/-! BTy7: dicts from whole numbers, as lists of pairs. -/
namespace BW
open PySem PySem.Spec
variable {α β τ Λ Γ ρ : Type} {c : Ce}
def kD (t : List (Int × α)) : List Int := t.map (·.1)
def vD (e : α → D) (t : List (Int × α)) : List D := t.map fun p => e p.2
def lk : List (Int × α) → Int → Option α
  | (k, d) :: t, x => if k = x then some d else lk t x
  | [], _ => none
def hasK (t : List (Int × α)) (x : Int) : Bool := (lk t x).isSome
def lkT (t : List (Int × α)) (x : Int) : R α := match lk t x with
  | some d => .ok d
  | none => .no
def repK : List (Int × α) → Int → α → List (Int × α)
  | (k, d) :: t, x, y => (k, if k = x then y else d) :: repK t x y
  | [], _, _ => []
def putP (t : List (Int × α)) (x : Int) (y : α) : List (Int × α) := if (kD t).contains x then repK t x y else t ++ [(x, y)]
@[irreducible] def putT (t : List (Int × α)) (x : Int) (y : α) : R (List (Int × α)) := if t.length < 16777216 then .ok (putP t x y) else .no
theorem look_t (e : α → D) : ∀ (t : List (Int × α)) (x : Int), lookD (kD t) (vD e t) x = (lk t x).map e
  | [], _ => rfl
  | (k, d) :: t, x => by
    show (if k = x then some (e d) else lookD (kD t) (vD e t) x) = (if k = x then some d else lk t x).map e
    split
    · rfl
    · exact look_t e t x
theorem rep_t (e : α → D) : ∀ (t : List (Int × α)) (x : Int) (y : α), replD (kD t) (vD e t) x (e y) = vD e (repK t x y) ∧ kD (repK t x y) = kD t
  | [], _, _ => ⟨rfl, rfl⟩
  | (k, d) :: t, x, y => by
    obtain ⟨h1, h2⟩ := rep_t e t x y
    constructor
    · show (if k = x then e y else e d) :: replD (kD t) (vD e t) x (e y) = e (if k = x then y else d) :: vD e (repK t x y)
      rw [h1]
      split <;> rfl
    · show k :: kD (repK t x y) = k :: kD t
      rw [h2]
theorem put_t (e : α → D) (t : List (Int × α)) (x : Int) (y : α) : putKs (kD t) x = kD (putP t x y) ∧ putDs (kD t) (vD e t) x (e y) = vD e (putP t x y) := by
  unfold putKs putDs putP
  split
  · exact ⟨(rep_t e t x y).2.symm, (rep_t e t x y).1⟩
  · exact ⟨by unfold kD; rw [List.map_append]; rfl, by unfold vD; rw [List.map_append]; rfl⟩
/-! expressions -/
variable {e1 : α → D} {e : ρ → D} {fk f : F}
theorem ev_K {i : Nat} (e1 : α → D) (t : List (Int × α)) (h : c[i]? = some (some (.md (kD t) (vD e1 t)))) : ∀ env, Has c env → fK i env = .ok (.dct (kD t) (vD e1 t)) := fun env H => by
  have q := H.get h
  unfold fK
  rw [q]
theorem ev_din {i : Nat} {x : Int} (t : List (Int × α)) (h : c[i]? = some (some (.md (kD t) (vD e1 t)))) (hk : EvE c fk (.ok x) eI) : EvE c (f2 dinD fk (fK i)) (.ok (hasK t x)) eB := fun env H => by
  have q1 : fk env = .ok (.int x) := hk env H
  show f2 dinD fk (fK i) env = .ok (.bl (hasK t x))
  unfold f2
  rw [q1]
  show ((fK i env).bind fun y => dinD (.int x) y) = _
  rw [ev_K e1 t h env H]
  show R.ok (D.bl (lookD (kD t) (vD e1 t) x).isSome) = _
  rw [look_t]
  unfold hasK
  cases lk t x <;> rfl
theorem ev_dnin {i : Nat} {x : Int} (t : List (Int × α)) (h : c[i]? = some (some (.md (kD t) (vD e1 t)))) (hk : EvE c fk (.ok x) eI) : EvE c (f2 dninD fk (fK i)) (.ok (!hasK t x)) eB := fun env H => by
  have q1 : fk env = .ok (.int x) := hk env H
  show f2 dninD fk (fK i) env = .ok (.bl (!hasK t x))
  unfold f2
  rw [q1]
  show ((fK i env).bind fun y => dninD (.int x) y) = _
  rw [ev_K e1 t h env H]
  show R.ok (D.bl (!(lookD (kD t) (vD e1 t) x).isSome)) = _
  rw [look_t]
  unfold hasK
  cases lk t x <;> rfl
theorem ev_dget {i : Nat} {x : Int} (t : List (Int × α)) (h : c[i]? = some (some (.md (kD t) (vD e1 t)))) (hk : EvE c fk (.ok x) eI) : EvE c (f2 dgetD (fDc (fK i)) fk) (lkT t x) e1 := fun env H => by
  have q1 : fk env = .ok (.int x) := hk env H
  have E : f2 dgetD (fDc (fK i)) fk env = dgetD (.dct (kD t) (vD e1 t)) (.int x) := by
    unfold f2 fDc f1
    rw [ev_K e1 t h env H, q1]
    rfl
  rw [E]
  unfold lkT
  cases hl : lk t x with
  | none => trivial
  | some d =>
    show (match lookD (kD t) (vD e1 t) x with | some d => R.ok d | none => .no) = .ok (e1 d)
    rw [look_t, hl]
    rfl
/-! statements -/
variable {g : G} {out : Γ → Ce} {lo : Λ → Ce} {ke : En → Prop}
theorem sim_newD {i : Nat} {t : TR Λ Γ ρ} (k : Sim (c.set i (some (.md [] []))) g t out lo ke e) : Sim c (gSeq (gNewD i) g) t out lo ke e := fun env H => by
  have E : gSeq (gNewD i) g env = g (env.set i (.md [] [])) := rfl
  rw [E]
  exact k _ (H.set i _)
theorem sim_new1 {i : Nat} {x : Int} {y : α} {t : TR Λ Γ ρ} (hk : EvE c fk (.ok x) eI) (hv : EvE c f (.ok y) e1) (k : Sim (c.set i (some (.md (kD [(x, y)]) (vD e1 [(x, y)])))) g t out lo ke e) : Sim c (gSeq (gNew1 i fk f) g) t out lo ke e := fun env H => by
  have q1 : fk env = .ok (.int x) := hk env H
  have q2 : f env = .ok (e1 y) := hv env H
  have E : gSeq (gNew1 i fk f) g env = g (env.set i (.md [x] [e1 y])) := by
    unfold gSeq gNew1
    rw [q1, q2]
    rfl
  rw [E]
  exact k _ (H.set i _)
theorem sim_putD {i : Nat} {x : Int} {y : α} {l : List (Int × α)} {t : List (Int × α) → TR Λ Γ ρ} (h : c[i]? = some (some (.md (kD l) (vD e1 l)))) (hk : EvE c fk (.ok x) eI) (hv : EvE c f (.ok y) e1) (k : ∀ m : List (Int × α), Sim (c.set i (some (.md (kD m) (vD e1 m)))) g (t m) out lo ke e) : Sim c (gSeq (gPutD i fk f) g) (TR.ob (putT l x y) t) out lo ke e := fun env H => by
  have q0 := H.get h
  have q1 : fk env = .ok (.int x) := hk env H
  have q2 : f env = .ok (e1 y) := hv env H
  unfold putT
  by_cases hz : l.length < 16777216
  · rw [if_pos hz]
    have E : gSeq (gPutD i fk f) g env = g (env.set i (.md (kD (putP l x y)) (vD e1 (putP l x y)))) := by
      have E0 : gPutD i fk f env = .nx (env.set i (.md (kD (putP l x y)) (vD e1 (putP l x y)))) := by
        unfold gPutD
        rw [q0, q2, q1]
        show (if (kD l).length < sizeLine then SR.nx (env.set i (.md (putKs (kD l) x) (putDs (kD l) (vD e1 l) x (e1 y)))) else .no) = _
        rw [if_pos (by unfold kD; rw [List.length_map, sizeLine_eq]; exact hz), (put_t e1 l x y).1, (put_t e1 l x y).2]
      unfold gSeq
      rw [E0]
    rw [E]
    exact k _ _ (H.set i _)
  · rw [if_neg hz]
    trivial
/-! a list or None, compared -/
theorem py_list {e : α → D} {l : List α} {y : PyData} (h : py (eL e l) = some y) : ∃ ps, y = .list ps := by
  have h : (pyA (l.map e)).map PyData.list = some y := h
  cases hp : pyA (l.map e) with
  | none => rw [hp] at h; cases h
  | some ps => rw [hp] at h; exact ⟨ps, (Option.some.inj h).symm⟩
theorem plO {k : Nat} {e : α → D} (p : PlE k (eL e)) : PlE k (eO (eL e)) := ⟨fun o => match o with
  | none => ⟨.none, rfl, by first | rfl | simp [PyData.canLay0], by simp [PyData.depth]⟩
  | some l => p.py l, fun a b x y h1 h2 => by
    cases a with
    | none =>
      cases b with
      | none => cases h1; cases h2; simp [PyData.eqv]
      | some m =>
        obtain ⟨qs, rfl⟩ := py_list (show py (eL e m) = some y from h2)
        cases h1
        simp [PyData.eqv]
    | some l =>
      cases b with
      | none =>
        obtain ⟨ps, rfl⟩ := py_list (show py (eL e l) = some x from h1)
        cases h2
        simp [PyData.eqv]
      | some m =>
        rw [p.eqv l m x y h1 h2]
        simp⟩
end BW
/-! BTy8: a, b = x, y. -/
namespace BW
variable {α β Λ Γ ρ : Type} {c : Ce} {fa fb : F} {e1 : α → D} {e2 : β → D} {e : ρ → D} {g : G} {out : Γ → Ce} {lo : Λ → Ce} {ke : En → Prop}
theorem sim_par {i j : Nat} {x : α} {y : β} {t : TR Λ Γ ρ} (h1 : EvE c fa (.ok x) e1) (h2 : EvE c fb (.ok y) e2) (k : Sim ((c.set i (some (.im (e1 x)))).set j (some (.im (e2 y)))) g t out lo ke e) : Sim c (gSeq (gPar i j fa fb) g) t out lo ke e := fun env H => by
  have q1 : fa env = .ok (e1 x) := h1 env H
  have q2 : fb env = .ok (e2 y) := h2 env H
  have E : gSeq (gPar i j fa fb) g env = g ((env.set i (.im (e1 x))).set j (.im (e2 y))) := by
    unfold gSeq gPar
    rw [q1, q2]
    rfl
  rw [E]
  exact k _ ((H.set i _).set j _)
end BW
/-! BTy9: x.insert(i, y), x.remove(k). -/
namespace BW
variable {α β Λ Γ ρ : Type} {c : Ce} {fa fb : F} {e1 : α → D} {e : ρ → D} {g : G} {out : Γ → Ce} {lo : Λ → Ce} {ke : En → Prop}
@[irreducible] def remT (l : List Int) (k : Int) : R (List Int) := match fIx l k with
  | some j => .ok (l.eraseIdx j)
  | none => .no
theorem ro_rem {l : List Int} {k : Int} : RefO (kRem (l.map eI) (eI k)) (remT l k) eI := by
  unfold remT
  have E : kRem (l.map eI) (eI k) = (fIx l k).map fun j => (l.eraseIdx j).map D.int := by
    show (match intsD (l.map D.int), D.int k with | some ns, .int k => (fIx ns k).map fun j => (ns.eraseIdx j).map D.int | _, _ => none) = _
    rw [ints_map]
  rw [E]
  cases fIx l k with
  | none => trivial
  | some j => rfl
@[irreducible] def insT (l : List α) (n : Int) (y : α) : R (List α) := if 0 ≤ n ∧ n < 2 ^ 62 ∧ l.length < 16777216 then .ok (l.take n.toNat ++ [y] ++ l.drop n.toNat) else .no
theorem sim_ins {i : Nat} {n : Int} {y : α} {l : List α} {t : List α → TR Λ Γ ρ} (hc : c[i]? = some (some (.mu (l.map e1)))) (h1 : EvE c fa (.ok n) eI) (h2 : EvE c fb (.ok y) e1) (k : ∀ m : List α, Sim (c.set i (some (.mu (m.map e1)))) g (t m) out lo ke e) : Sim c (gSeq (gIns i fa fb) g) (TR.ob (insT l n y) t) out lo ke e := fun env H => by
  have q0 := H.get hc
  have q1 : fa env = .ok (.int n) := h1 env H
  have q2 : fb env = .ok (e1 y) := h2 env H
  unfold insT
  by_cases hz : 0 ≤ n ∧ n < 2 ^ 62 ∧ l.length < 16777216
  · rw [if_pos hz]
    have E0 : gIns i fa fb env = .nx (env.set i (.mu ((l.take n.toNat ++ [y] ++ l.drop n.toNat).map e1))) := by
      unfold gIns
      rw [q0, q1, q2]
      show (if 0 ≤ n ∧ n < 2 ^ 62 ∧ (l.map e1).length < PySem.sizeLine then SR.nx (env.set i (.mu ((l.map e1).take n.toNat ++ [e1 y] ++ (l.map e1).drop n.toNat))) else .no) = _
      rw [if_pos ⟨hz.1, hz.2.1, by rw [List.length_map, PySem.sizeLine_eq]; exact hz.2.2⟩, List.map_append, List.map_append, List.map_take, List.map_drop]
      rfl
    have E : gSeq (gIns i fa fb) g env = g (env.set i (.mu ((l.take n.toNat ++ [y] ++ l.drop n.toNat).map e1))) := by
      unfold gSeq
      rw [E0]
    rw [E]
    exact k _ _ (H.set i _)
  · rw [if_neg hz]
    trivial
end BW
/-! BTy10: a list comprehension over a lent list. -/
namespace BW
variable {α : Type} {c : Ce}
theorem lfA_map {e : α → D} (h : LF e) : ∀ l : List α, lfA (l.map e) = true
  | [] => rfl
  | a :: l => by
    show (lf (e a) && lfA (l.map e)) = true
    rw [h a, lfA_map h l]
    rfl
theorem ev_lendF {f : F} {i : Nat} {l : List D} {r : R (List α)} {e : α → D} (h : c[i]? = some (some (.mu l))) (hl : LF e) (k : EvE (c.set i (some (.im (.lst l)))) f r (eL e)) : EvE c (fLendF i f) r (eL e) := fun env H => by
  have q := H.get h
  have k1 := k _ (H.set i _)
  have E : fLendF i f env = (f (env.set i (.im (.lst l)))).bind lfL := by unfold fLendF frzE; rw [q]
  rw [E]
  cases r with
  | ok d =>
    have k2 : f (env.set i (.im (.lst l))) = .ok (.lst (d.map e)) := k1
    rw [k2]
    show (if lfA (d.map e) then R.ok (D.lst (d.map e)) else .no) = _
    rw [if_pos (lfA_map hl d)]
    try rfl
  | er a p =>
    have k2 : f (env.set i (.im (.lst l))) = .er a p := k1
    rw [k2]
    exact rfl
  | no => trivial
end BW
/-! BTy11: max and min of three, x[a:b] = .., x.index(y). -/
namespace BW
variable {α β Λ Γ ρ : Type} {c : Ce} {fa fb f : F} {e1 : α → D} {e : ρ → D} {g : G} {out : Γ → Ce} {lo : Λ → Ce} {ke : En → Prop}
theorem rf_max3 {i j k : Int} : RefR (max3D [eI i, eI j, eI k]) (.ok (max (max i j) k)) eI := rfl
theorem rf_min3 {i j k : Int} : RefR (min3D [eI i, eI j, eI k]) (.ok (min (min i j) k)) eI := rfl
@[irreducible] def setSlT (l : List α) (a c : Int) (ys : List α) : R (List α) := if 0 ≤ a ∧ a ≤ c ∧ c ≤ (l.length : Int) ∧ l.length + ys.length ≤ 16777216 then .ok (l.take a.toNat ++ ys ++ l.drop c.toNat) else .no
theorem sim_setSl {i : Nat} {a b : Int} {x : R (List α)} {l : List α} {t : List α → TR Λ Γ ρ} (hk : Kp c ke) (hc : c[i]? = some (some (.mu (l.map e1)))) (h : EvE c f x (eL e1)) (h1 : EvE c fa (.ok a) eI) (h2 : EvE c fb (.ok b) eI) (k : ∀ m : List α, Sim (c.set i (some (.mu (m.map e1)))) g (t m) out lo ke e) : Sim c (gSeq (gSetSl i fa fb f) g) (TR.ob (x.bind fun ys => setSlT l a b ys) t) out lo ke e := by
  cases x with
  | no => exact fun _ _ => trivial
  | er m p =>
    intro env H
    have q1 := H.get hc
    have q2 : f env = .er m p := h env H
    refine ⟨env, ?_, hk env H⟩
    have E : gSetSl i fa fb f env = .er env m p := by unfold gSetSl; rw [q1, q2]; rfl
    unfold gSeq; rw [E]
  | ok ys =>
    intro env H
    have q0 := H.get hc
    have q1 : f env = .ok (.lst (ys.map e1)) := h env H
    have q2 : fa env = .ok (.int a) := h1 env H
    have q3 : fb env = .ok (.int b) := h2 env H
    show match (TR.ob (setSlT l a b ys) t : TR Λ Γ ρ) with
      | .nx x => ∃ e', gSeq (gSetSl i fa fb f) g env = .nx e' ∧ Has (out x) e'
      | .bk x => ∃ e', gSeq (gSetSl i fa fb f) g env = .bk e' ∧ Has (lo x) e'
      | .ct x => ∃ e', gSeq (gSetSl i fa fb f) g env = .ct e' ∧ Has (lo x) e'
      | .rt d => gSeq (gSetSl i fa fb f) g env = .rt (e d)
      | .er k p => ∃ e', gSeq (gSetSl i fa fb f) g env = .er e' k p ∧ ke e'
      | .no => True
    unfold setSlT
    by_cases hz : 0 ≤ a ∧ a ≤ b ∧ b ≤ (l.length : Int) ∧ l.length + ys.length ≤ 16777216
    · rw [if_pos hz]
      have E0 : gSetSl i fa fb f env = .nx (env.set i (.mu ((l.take a.toNat ++ ys ++ l.drop b.toNat).map e1))) := by
        unfold gSetSl
        rw [q0, q1]
        show SR.of env (fa env) (fun
          | .int a => .of env (fb env) fun
            | .int c => if 0 ≤ a ∧ a ≤ c ∧ c ≤ ((l.map e1).length : Int) ∧ (l.map e1).length + (ys.map e1).length ≤ PySem.sizeLine then .nx (env.set i (.mu ((l.map e1).take a.toNat ++ (ys.map e1) ++ (l.map e1).drop c.toNat))) else .no
            | _ => .no
          | _ => .no) = _
        rw [q2]
        show SR.of env (fb env) (fun
            | .int c => if 0 ≤ a ∧ a ≤ c ∧ c ≤ ((l.map e1).length : Int) ∧ (l.map e1).length + (ys.map e1).length ≤ PySem.sizeLine then .nx (env.set i (.mu ((l.map e1).take a.toNat ++ (ys.map e1) ++ (l.map e1).drop c.toNat))) else .no
            | _ => .no) = _
        rw [q3]
        show (if 0 ≤ a ∧ a ≤ b ∧ b ≤ ((l.map e1).length : Int) ∧ (l.map e1).length + (ys.map e1).length ≤ PySem.sizeLine then SR.nx (env.set i (.mu ((l.map e1).take a.toNat ++ (ys.map e1) ++ (l.map e1).drop b.toNat))) else .no) = _
        rw [if_pos ⟨hz.1, hz.2.1, by rw [List.length_map]; exact hz.2.2.1, by rw [List.length_map, List.length_map, PySem.sizeLine_eq]; exact hz.2.2.2⟩, List.map_append, List.map_append, List.map_take, List.map_drop]
      have E : gSeq (gSetSl i fa fb f) g env = g (env.set i (.mu ((l.take a.toNat ++ ys ++ l.drop b.toNat).map e1))) := by
        unfold gSeq
        rw [E0]
      rw [E]
      exact k _ _ (H.set i _)
    · rw [if_neg hz]
      trivial
theorem sim_insb {i : Nat} {n : R Int} {y : R α} {l : List α} {t : List α → TR Λ Γ ρ} (hk : Kp c ke) (hc : c[i]? = some (some (.mu (l.map e1)))) (h1 : EvE c fa n eI) (h2 : EvE c fb y e1) (k : ∀ m : List α, Sim (c.set i (some (.mu (m.map e1)))) g (t m) out lo ke e) : Sim c (gSeq (gIns i fa fb) g) (TR.ob (n.bind fun n => y.bind fun y => insT l n y) t) out lo ke e := by
  cases n with
  | ok n =>
    cases y with
    | ok y => exact sim_ins hc h1 h2 k
    | er m p =>
      intro env H
      have q1 := H.get hc
      have q2 : fa env = .ok (.int n) := h1 env H
      have q3 : fb env = .er m p := h2 env H
      refine ⟨env, ?_, hk env H⟩
      have E : gIns i fa fb env = .er env m p := by unfold gIns; rw [q1, q2, q3]; rfl
      unfold gSeq; rw [E]
    | no => exact fun _ _ => trivial
  | er m p =>
    intro env H
    have q1 := H.get hc
    have q2 : fa env = .er m p := h1 env H
    refine ⟨env, ?_, hk env H⟩
    have E : gIns i fa fb env = .er env m p := by unfold gIns; rw [q1, q2]; rfl
    unfold gSeq; rw [E]
  | no => exact fun _ _ => trivial
theorem setSlT_ok {l ys : List α} {a b : Int} (h0 : 0 ≤ a) (h1 : a ≤ b) (h2 : b ≤ (l.length : Int)) (h3 : l.length + ys.length ≤ 16777216) : setSlT l a b ys = .ok (l.take a.toNat ++ ys ++ l.drop b.toNat) := by
  unfold setSlT
  rw [if_pos ⟨h0, h1, h2, h3⟩]
/-! index -/
@[irreducible] def idxT [BEq α] (l : List α) (k : α) : R Int := match l.findIdx? (fun z => z == k) with
  | some j => .ok (j : Nat)
  | none => .no
theorem find_map {e1 : α → D} {p : α → Bool} {q : D → Bool} (h : ∀ a, q (e1 a) = p a) : ∀ l : List α, (l.map e1).findIdx? q = l.findIdx? p := fun l => by
  rw [List.findIdx?_map]
  congr 1
  funext a
  exact h a
theorem allSc_map {e1 : α → D} (h : ∀ a, (e1 a).sc.isSome = true) : ∀ l : List α, allSc (l.map e1) = true
  | [] => rfl
  | a :: l => by
    show ((e1 a).sc.isSome && allSc (l.map e1)) = true
    rw [h a, allSc_map h l]
    rfl
theorem rf_idx {l : List Int} {k : Int} : RefR (idxD (eL eI l) (eI k)) (idxT l k) eI := by
  unfold idxT
  have E : idxD (eL eI l) (eI k) = (match l.findIdx? (fun z => z == k) with | some j => R.ok (D.int (j : Nat)) | none => .no) := by
    show (if (eI k).sc.isSome && allSc (l.map eI) then (match (l.map eI).findIdx? (fun z => eqS z (eI k)) with | some j => R.ok (D.int (j : Nat)) | none => .no) else .no) = _
    rw [allSc_map (fun _ => rfl), find_map (p := fun z => z == k) (fun a => rfl)]
    rfl
  rw [E]
  cases l.findIdx? (fun z => z == k) with
  | none => trivial
  | some j => rfl
theorem rf_idxB {l : List Bool} {k : Bool} : RefR (idxD (eL eB l) (eB k)) (idxT l k) eI := by
  unfold idxT
  have E : idxD (eL eB l) (eB k) = (match l.findIdx? (fun z => z == k) with | some j => R.ok (D.int (j : Nat)) | none => .no) := by
    show (if (eB k).sc.isSome && allSc (l.map eB) then (match (l.map eB).findIdx? (fun z => eqS z (eB k)) with | some j => R.ok (D.int (j : Nat)) | none => .no) else .no) = _
    rw [allSc_map (fun _ => rfl), find_map (p := fun z => z == k) (fun a => rfl)]
    rfl
  rw [E]
  cases l.findIdx? (fun z => z == k) with
  | none => trivial
  | some j => rfl
end BW
/-! BTy12: a < b < c. -/
namespace BW
variable {c : Ce} {fa fb fc : F}
def chT (p q : Int → Int → Bool) (a b d : R Int) : R Bool := a.bind fun i => b.bind fun j => cond (p i j) (d.bind fun k => .ok (q j k)) (.ok false)
theorem ev_ch {p q : Int → Int → Bool} {a b d : R Int} (ha : EvE c fa a eI) (hb : EvE c fb b eI) (hd : EvE c fc d eI) : EvE c (fCh p q fa fb fc) (chT p q a b d) eB := fun env H => by
  have h1 := ha env H
  have h2 := hb env H
  have h3 := hd env H
  unfold fCh chT
  cases a with
  | no => trivial
  | er n e =>
    have h1 : fa env = .er n e := h1
    rw [h1]
    exact rfl
  | ok i =>
    have h1 : fa env = .ok (.int i) := h1
    rw [h1]
    cases b with
    | no => trivial
    | er n e =>
      have h2 : fb env = .er n e := h2
      show RefR ((fb env).bind _) _ _
      rw [h2]
      exact rfl
    | ok j =>
      have h2 : fb env = .ok (.int j) := h2
      show RefR ((fb env).bind _) _ _
      rw [h2]
      show RefR (cond (p i j) ((fc env).bind fun
          | .int k => .ok (.bl (q j k))
          | _ => .no) (.ok (.bl false))) (cond (p i j) (d.bind fun k => .ok (q j k)) (.ok false)) eB
      cases p i j with
      | false => exact rfl
      | true =>
        cases d with
        | no => trivial
        | er n e =>
          have h3 : fc env = .er n e := h3
          show RefR ((fc env).bind _) _ _
          rw [h3]
          exact rfl
        | ok k =>
          have h3 : fc env = .ok (.int k) := h3
          show RefR ((fc env).bind _) _ _
          rw [h3]
          exact rfl
end BW
/-! BTy13: a web or a bool, asked whether it is a bool. -/
namespace BW
def isU : W ⊕ Bool → Bool → Bool
  | .inl _, _ => false
  | .inr a, b => decide (a = b)
theorem rf_isU {x : W ⊕ Bool} {b : Bool} : RefR (isUD (eU eW eB x) (eB b)) (.ok (isU x b)) eB := by
  cases x with
  | inl w => rfl
  | inr a => rfl
end BW
/-! BTy14: a slot that holds a list of its own, or None. -/
namespace BW
open PySem PySem.Spec PyProof.Rows L2
variable {α β Λ Γ ρ : Type} {c : Ce} {f : F} {g : G} {e1 : α → D} {out : Γ → Ce} {lo : Λ → Ce} {ke : En → Prop} {e : ρ → D}
def eiC (e : α → D) : Option (List α) → Option Sl
  | some l => some (.mu (l.map e))
  | none => some (.im .non)
theorem ev_Le {i : Nat} (e : α → D) (x : Option (List α)) (h : c[i]? = some (eiC e x) := by rfl) : EvE c (fL i) (.ok x) (eO (eL e)) := fun env H => by
  show fL i env = _
  unfold fL
  cases x with
  | some l => rw [H.get (s := .mu (l.map e)) h]; rfl
  | none => rw [H.get (s := .im .non) h]; rfl
theorem sim_setEb {i : Nat} {r : R (Option (List α))} {t : Option (List α) → TR Λ Γ ρ} (hk : Kp c ke) (h : EvE c f r (eO (eL e1))) (k : ∀ x : Option (List α), Sim (c.set i (eiC e1 x)) g (t x) out lo ke e) : Sim c (gSeq (gSetE i f) g) (TR.ob r t) out lo ke e :=
  step_of (K := fun d env => match d with | .lst l => .nx (env.set i (.mu l)) | .non => .nx (env.set i (.im .non)) | _ => .no) hk (fun _ => rfl) h (fun x env H => by
    cases x with
    | some l => exact ⟨_, rfl, H.set i (.mu (l.map e1))⟩
    | none => exact ⟨_, rfl, H.set i (.im .non)⟩) k
theorem sim_unE {x : Option (List α)} {t : List α → TR Λ Γ ρ} (i : Nat) (h : c[i]? = some (eiC e1 x)) (k : ∀ l : List α, Sim (c.set i (some (.mu (l.map e1)))) g (t l) out lo ke e) : Sim c g (TR.ob (unO x) t) out lo ke e := by
  cases x with
  | none => exact fun env H => trivial
  | some l =>
    have E : c.set i (some (.mu (l.map e1))) = c := by
      obtain ⟨hi, he⟩ := List.getElem?_eq_some_iff.mp h
      have he : c[i] = some (.mu (l.map e1)) := he
      rw [← he]
      exact List.set_getElem_self hi
    have := k l
    rw [E] at this
    exact this
theorem plOI : PlE 0 (eO eI) := ⟨fun o => match o with
  | none => ⟨.none, rfl, by first | rfl | simp [PyData.canLay0], by simp [PyData.depth]⟩
  | some l => plI.py l, fun a b x y h1 h2 => by
    cases a with
    | none =>
      cases b with
      | none => cases h1; cases h2; simp [PyData.eqv]
      | some m => cases h1; cases h2; simp [PyData.eqv]
    | some l =>
      cases b with
      | none => cases h1; cases h2; simp [PyData.eqv]
      | some m =>
        rw [plI.eqv l m x y h1 h2]
        simp⟩
end BW
/-! BTy15: a dict frozen and walked; what it holds, or another value; an either slot's content. -/
namespace BW
open PySem PySem.Spec PyProof.Rows L2
variable {α β Λ Γ ρ : Type} {c : Ce} {f fk fd : F} {g : G} {e1 : α → D} {out : Γ → Ce} {lo : Λ → Ce} {ke : En → Prop} {e : ρ → D}
theorem ev_dor {i : Nat} {x : Int} {d : α} (t : List (Int × α)) (h : c[i]? = some (some (.md (kD t) (vD e1 t)))) (hk : EvE c fk (.ok x) eI) (hd : EvE c fd (.ok d) e1) : EvE c (fDor (fK i) fk fd) (.ok ((lk t x).getD d)) e1 := fun env H => by
  have q1 : fk env = .ok (.int x) := hk env H
  have q2 : fd env = .ok (e1 d) := hd env H
  have E : fDor (fK i) fk fd env = dorD (.dct (kD t) (vD e1 t)) (.int x) (e1 d) := by
    unfold fDor fDc f1
    rw [ev_K e1 t h env H, q1, q2]
    rfl
  show fDor (fK i) fk fd env = .ok (e1 ((lk t x).getD d))
  rw [E]
  show R.ok ((lookD (kD t) (vD e1 t) x).getD (e1 d)) = _
  rw [look_t]
  cases lk t x <;> rfl
theorem ev_KF {i : Nat} (e1 : α → D) (t : List (Int × α)) (h : c[i]? = some (some (.im (.dct (kD t) (vD e1 t))))) : ∀ env, Has c env → fK i env = .ok (.dct (kD t) (vD e1 t)) := fun env H => by
  have q := H.get h
  unfold fK
  rw [q]
theorem ev_dgetF {i : Nat} {x : Int} (t : List (Int × α)) (h : c[i]? = some (some (.im (.dct (kD t) (vD e1 t))))) (hk : EvE c fk (.ok x) eI) : EvE c (f2 dgetD (fDc (fK i)) fk) (lkT t x) e1 := fun env H => by
  have q1 : fk env = .ok (.int x) := hk env H
  have E : f2 dgetD (fDc (fK i)) fk env = dgetD (.dct (kD t) (vD e1 t)) (.int x) := by
    unfold f2 fDc f1
    rw [ev_KF e1 t h env H, q1]
    rfl
  rw [E]
  unfold lkT
  cases hl : lk t x with
  | none => trivial
  | some d =>
    show (match lookD (kD t) (vD e1 t) x with | some d => R.ok d | none => .no) = .ok (e1 d)
    rw [look_t, hl]
    rfl
theorem ev_keysF {i : Nat} (e1 : α → D) (t : List (Int × α)) (h : c[i]? = some (some (.im (.dct (kD t) (vD e1 t)))) := by rfl) : EvE c (f1 keysD (fI i)) (.ok (kD t)) (eL eI) := fun env H => by
  have q := H.get h
  show f1 keysD (fI i) env = .ok (eL eI (kD t))
  unfold f1 fI
  rw [q]
  rfl
theorem sim_frzD {i : Nat} {ks : List Int} {l : List D} {t : TR Λ Γ ρ} (h : c[i]? = some (some (.md ks l)) := by rfl) (k : Sim (c.set i (some (.im (.dct ks l)))) g t out lo ke e) : Sim c (gSeq (gFrzD i) g) t out lo ke e := fun env H => by
  have q := H.get h
  have E : gSeq (gFrzD i) g env = g (env.set i (.im (.dct ks l))) := by
    unfold gSeq gFrzD
    rw [q]
  rw [E]
  exact k _ (H.set i _)
theorem ev_Ve {i : Nat} (e : α → D) (x : Option (List α)) (h : c[i]? = some (eiC e x) := by rfl) : EvE c (fV i) (unO x) (eL e) := fun env H => by
  cases x with
  | none => trivial
  | some l =>
    show fV i env = .ok (eL e l)
    unfold fV
    rw [H.get (s := .mu (l.map e)) h]
end BW
/-! BTy16: an error raised with what it keeps. -/
namespace BW
open PySem PySem.Spec PyProof.Rows L2
variable {α Λ Γ ρ : Type} {c : Ce} {f : F} {e1 : α → D} {out : Γ → Ce} {lo : Λ → Ce} {ke : En → Prop} {e : ρ → D}
theorem sim_raise1 {k : Nat} {x : α} (hk : Kp c ke) (hs : ∀ x, (e1 x).sc.isSome = true) (h : EvE c f (.ok x) e1) : Sim c (gRaise1 k f) (.er k [e1 x] : TR Λ Γ ρ) out lo ke e := fun env H => by
  have q : f env = .ok (e1 x) := h env H
  refine ⟨env, ?_, hk env H⟩
  show SR.of env (f env) _ = _
  rw [q]
  exact if_pos (hs x)
theorem sim_raise1b {k : Nat} {r : R α} (hk : Kp c ke) (hs : ∀ x, (e1 x).sc.isSome = true) (h : EvE c f r e1) : Sim c (gRaise1 k f) (TR.ob r fun x => .er k [e1 x] : TR Λ Γ ρ) out lo ke e := fun env H => by
  cases r with
  | ok x => exact sim_raise1 (Λ := Λ) (Γ := Γ) (ρ := ρ) (out := out) (lo := lo) (e := e) hk hs h env H
  | no => trivial
  | er n p =>
    have q : f env = .er n p := h env H
    refine ⟨env, ?_, hk env H⟩
    show SR.of env (f env) _ = _
    rw [q]
    rfl
theorem scI : ∀ x : Int, (eI x).sc.isSome = true := fun _ => rfl
theorem scN : ∀ x : Unit, (eN x).sc.isSome = true := fun _ => rfl
theorem scOI : ∀ x : Option Int, (eO eI x).sc.isSome = true := fun x => by cases x <;> rfl
end BW
/-! BTy17: a told dict. -/
namespace BW
open PySem PySem.Spec PyProof.Rows L2
variable {α : Type} {c : Ce} {fk : F} {e1 : α → D}
def eDc (e : α → D) (t : List (Int × α)) : D := .dct (kD t) (vD e t)
theorem ev_dinF {i : Nat} {x : Int} (t : List (Int × α)) (h : c[i]? = some (some (.im (.dct (kD t) (vD e1 t))))) (hk : EvE c fk (.ok x) eI) : EvE c (f2 dinD fk (fK i)) (.ok (hasK t x)) eB := fun env H => by
  have q1 : fk env = .ok (.int x) := hk env H
  show f2 dinD fk (fK i) env = .ok (.bl (hasK t x))
  unfold f2
  rw [q1]
  show ((fK i env).bind fun y => dinD (.int x) y) = _
  rw [ev_KF e1 t h env H]
  show R.ok (D.bl (lookD (kD t) (vD e1 t) x).isSome) = _
  rw [look_t]
  unfold hasK
  cases lk t x <;> rfl
theorem ev_dninF {i : Nat} {x : Int} (t : List (Int × α)) (h : c[i]? = some (some (.im (.dct (kD t) (vD e1 t))))) (hk : EvE c fk (.ok x) eI) : EvE c (f2 dninD fk (fK i)) (.ok (!hasK t x)) eB := fun env H => by
  have q := ev_dinF t h hk env H
  have q : f2 dinD fk (fK i) env = .ok (.bl (hasK t x)) := q
  have q1 : fk env = .ok (.int x) := hk env H
  show f2 dninD fk (fK i) env = .ok (.bl (!hasK t x))
  unfold f2 at q ⊢
  rw [q1] at q ⊢
  rw [show (fK i env) = .ok (.dct (kD t) (vD e1 t)) from ev_KF e1 t h env H] at q ⊢
  have q : dinD (.int x) (.dct (kD t) (vD e1 t)) = .ok (.bl (hasK t x)) := q
  show (dinD (.int x) (.dct (kD t) (vD e1 t))).bind notD = _
  rw [q]
  rfl
end BW
/-! BTy18: enumerate. -/
namespace BW
open PySem PySem.Spec PyProof.Rows L2
variable {α : Type} {e : α → D}
def enumT (l : List α) : List (Int × α) := l.zipIdx.map fun p => ((p.2 : Int), p.1)
theorem rf_enum {x : D} {l : List α} (h : zipD.seqZ x = .ok (.lst (l.map e))) : RefR (enumD x) (.ok (enumT l)) (eL (eP eI e)) := by
  have E : enumD x = .ok (.lst (enuL (l.map e))) := by
    unfold enumD
    rw [h]
    rfl
  show enumD x = .ok (.lst ((enumT l).map (eP eI e)))
  rw [E]
  unfold enuL enumT
  rw [List.zipIdx_map, List.map_map, List.map_map]
  rfl
variable {Λ Γ ρ : Type} {c : Ce} {f fk : F} {g : G} {e1 : α → D} {out : Γ → Ce} {lo : Λ → Ce} {ke : En → Prop} {er : ρ → D}
theorem sim_putDv {i : Nat} {x : Int} {r : R α} {l : List (Int × α)} {t : List (Int × α) → TR Λ Γ ρ} (hk0 : Kp c ke) (h : c[i]? = some (some (.md (kD l) (vD e1 l)))) (hk : EvE c fk (.ok x) eI) (hv : EvE c f r e1) (k : ∀ m : List (Int × α), Sim (c.set i (some (.md (kD m) (vD e1 m)))) g (t m) out lo ke er) : Sim c (gSeq (gPutD i fk f) g) (TR.ob (r.bind fun y => putT l x y) t) out lo ke er := by
  cases r with
  | ok y => exact sim_putD h hk hv k
  | no => exact fun env H => trivial
  | er n p =>
    exact fun env H => by
      have q0 := H.get h
      have q2 : f env = .er n p := hv env H
      refine ⟨env, ?_, hk0 env H⟩
      show SR.sq (gPutD i fk f env) g = _
      unfold gPutD
      rw [q0, q2]
      rfl
end BW
/-! BTy19: what is borrowed. -/
namespace BW
open PySem PySem.Spec PyProof.Rows L2
variable {α : Type} {c : Ce}
theorem ev_Lb {i : Nat} (e : α → D) (x : α) (h : c[i]? = some (some (.bo (e x))) := by rfl) : EvE c (fL i) (.ok x) e := fun env H => by
  show fL i env = _
  unfold fL
  rw [H.get h]
theorem allSc_mapB {e : α → D} (hs : ∀ a, (e a).sc.isSome = true) : ∀ l : List α, allSc (l.map e) = true
  | [] => rfl
  | a :: l => by
    show ((e a).sc.isSome && allSc (l.map e)) = true
    rw [hs, allSc_mapB hs l]
    rfl
theorem ev_Bb {i : Nat} (x : List Int) (h : c[i]? = some (some (.bo (eL eI x))) := by rfl) : EvE c (fBs i) (.ok x) (eL eI) := fun env H => by
  show fBs i env = _
  unfold fBs
  rw [H.get h]
  show (if allSc (x.map eI) then R.ok (D.lst (x.map eI)) else .no) = _
  rw [if_pos (allSc_mapB scI x)]
end BW
/-! BTy20: a kept error, with what it keeps. -/
namespace BW
open PySem PySem.Spec PyProof.Rows L2
abbrev eXp (x : Nat × List D) : D := .exc x.1 x.2
theorem nnXp : NN eXp := fun _ => rfl
section
variable {Λ Γ ρ : Type}
def TR.trEX (o : Option Bool) (c : Nat) (p : List D) (t : TR Λ Γ ρ) : TR Λ Γ ρ := match o with
  | some true => t.noE
  | some false => .er c p
  | none => .no
def TR.trX (t : TR Λ Γ ρ) (tb : List (Nat × Bool)) (s : Nat × List D → TR Λ Γ ρ) : TR Λ Γ ρ := match t with
  | .er c p => TR.trEX (tb.lookup c) c p (s (c, p))
  | t => t
@[simp] theorem trX_er (c p tb) (k : Nat × List D → TR Λ Γ ρ) : TR.trX (.er c p) tb k = TR.trEX (tb.lookup c) c p (k (c, p)) := id rfl
@[simp] theorem trEX_t (c p) (t : TR Λ Γ ρ) : TR.trEX (some true) c p t = t.noE := id rfl
@[simp] theorem trEX_f (c p) (t : TR Λ Γ ρ) : TR.trEX (some false) c p t = .er c p := id rfl
@[simp] theorem trX_nx (a : Γ) (tb) (k : Nat × List D → TR Λ Γ ρ) : TR.trX (.nx a) tb k = .nx a := id rfl
@[simp] theorem trX_bk (a : Λ) (tb) (k : Nat × List D → TR Λ Γ ρ) : TR.trX (.bk a) tb k = .bk a := id rfl
@[simp] theorem trX_ct (a : Λ) (tb) (k : Nat × List D → TR Λ Γ ρ) : TR.trX (.ct a) tb k = .ct a := id rfl
@[simp] theorem trX_rt (a : ρ) (tb) (k : Nat × List D → TR Λ Γ ρ) : TR.trX (.rt a) tb k = .rt a := id rfl
variable {c : Ce} {out : Γ → Ce} {lo : Λ → Ce} {ke : En → Prop} {e : ρ → D}
theorem sim_tryX {i : Nat} {tb : List (Nat × Bool)} {body suite : G} {t : TR Λ Γ ρ} {s : Nat × List D → TR Λ Γ ρ} {ck : Ce} (hn : ∀ x, out x = (out x).set i none) (hn2 : ∀ x, lo x = (lo x).set i none) (hke : Kp ck ke) (hb : Sim c body t out lo (Has ck) e) (hs : ∀ k, Sim (ck.set i (some (.im (eXp k)))) suite (s k) out lo keT e) : Sim c (gTry i tb body suite) (t.trX tb s) out lo ke e := fun env H => by
  have k := hb env H
  unfold gTry
  cases t with
  | nx x =>
    obtain ⟨e', a, b⟩ := k
    rw [a]
    exact ⟨e', rfl, b⟩
  | bk x =>
    obtain ⟨e', a, b⟩ := k
    rw [a]
    exact ⟨e', rfl, b⟩
  | ct x =>
    obtain ⟨e', a, b⟩ := k
    rw [a]
    exact ⟨e', rfl, b⟩
  | rt d =>
    have k : body env = .rt (e d) := k
    rw [k]
    exact rfl
  | no => trivial
  | er n p =>
    obtain ⟨e', a, b⟩ := k
    rw [a]
    rw [trX_er]
    cases hl : tb.lookup n with
    | none => trivial
    | some k =>
      cases k with
      | false =>
        refine ⟨e', ?_, hke e' b⟩
        simp only [SR.tryK, hl]
      | true =>
        have E : SR.tryK (.er e' n p) i tb suite = suiteEnd i (suite (e'.set i (.im (.exc n p)))) := tryK_er hl
        rw [E, trEX_t]
        have q := hs (n, p) _ (b.set i (.im (.exc n p)))
        cases hsn : s (n, p) with
        | nx x =>
          rw [hsn] at q
          obtain ⟨e2, q1, q2⟩ := q
          rw [q1]
          exact ⟨_, rfl, hn x ▸ q2.unset i .no⟩
        | bk x =>
          rw [hsn] at q
          obtain ⟨e2, q1, q2⟩ := q
          rw [q1]
          exact ⟨_, rfl, hn2 x ▸ q2.unset i .no⟩
        | ct x =>
          rw [hsn] at q
          obtain ⟨e2, q1, q2⟩ := q
          rw [q1]
          exact ⟨_, rfl, hn2 x ▸ q2.unset i .no⟩
        | rt d =>
          rw [hsn] at q
          have q : suite _ = .rt (e d) := q
          rw [q]
          exact rfl
        | er m p => trivial
        | no => trivial
end
/-! ### isinstance, and the field -/
def isoTX (tb : List (Nat × Bool)) (x : Nat × List D) : R Bool := if 1 < x.1 ∧ x.2.length ≤ 1 then (match tb.lookup x.1 with
  | some b => .ok b
  | none => .no) else .no
theorem rf_isoTX {tb : List (Nat × Bool)} {x : Nat × List D} : RefR (isoXD tb (eXp x)) (isoTX tb x) eB := by
  obtain ⟨k, p⟩ := x
  have key : ∀ p : List D, p.length ≤ 1 → isoXD tb (.exc k p) = if 1 < k then (match tb.lookup k with
    | some b => .ok (.bl b)
    | none => .no) else .no := fun p hp => by
    match p, hp with
    | [], _ => rfl
    | [_], _ => rfl
    | _ :: _ :: l, hp => rw [List.length_cons, List.length_cons] at hp; omega
  unfold isoTX
  by_cases h : 1 < k ∧ p.length ≤ 1
  · show RefR (isoXD tb (.exc k p)) _ _
    rw [if_pos h, key p h.2, if_pos h.1]
    show RefR (match tb.lookup k with
      | some b => .ok (.bl b)
      | none => .no) (match tb.lookup k with
      | some b => .ok b
      | none => .no) eB
    cases tb.lookup k with
    | none => trivial
    | some b => exact rfl
  · rw [if_neg h]; trivial
def xfT (c : Nat) (x : Nat × List D) : R (Option Int) := if x.1 = c then (match x.2 with
  | [.int i] => .ok (some i)
  | [.non] => .ok none
  | _ => .no) else .no
theorem rf_xf {c : Nat} {x : Nat × List D} : RefR (xfD c (eXp x)) (xfT c x) (eO eI) := by
  obtain ⟨k, p⟩ := x
  unfold xfT
  by_cases h : k = c
  · rw [if_pos h]
    show RefR (xfD c (.exc k p)) (match p with
      | [.int i] => .ok (some i)
      | [.non] => .ok none
      | _ => .no) _
    split
    · show (if k = c then R.ok _ else R.no) = _
      rw [if_pos h]
      rfl
    · show (if k = c then R.ok _ else R.no) = _
      rw [if_pos h]
      rfl
    · trivial
  · rw [if_neg h]; trivial
@[simp] theorem xfT_i (c : Nat) (i : Int) : xfT c (c, [.int i]) = .ok (some i) := by unfold xfT; rw [if_pos rfl]
@[simp] theorem xfT_n (c : Nat) : xfT c (c, [.non]) = .ok none := by unfold xfT; rw [if_pos rfl]
theorem rf_isOr {α β : Type} {e1 : α → D} {e2 : β → D} {T : String} {f : α → Bool} {g : β → Bool} {x : α ⊕ β} (h1 : ∀ a, RefR (isiS T (e1 a)) (.ok (f a)) eB) (h2 : ∀ b, RefR (isiS T (e2 b)) (.ok (g b)) eB) : RefR (isiS T (eU e1 e2 x)) (.ok (x.elim f g)) eB := by
  cases x with
  | inl a => exact h1 a
  | inr b => exact h2 b
theorem ev_unRb {α β : Type} {c : Ce} {f : F} {e1 : α → D} {e2 : β → D} {r : R (α ⊕ β)} (h : EvE c f r (eU e1 e2)) : EvE c f (r.bind unR) e2 := by
  cases r with
  | ok x => exact ev_unR h
  | er k p => exact h
  | no => exact fun _ _ => trivial
theorem ev_unLb {α β : Type} {c : Ce} {f : F} {e1 : α → D} {e2 : β → D} {r : R (α ⊕ β)} (h : EvE c f r (eU e1 e2)) : EvE c f (r.bind unL) e1 := by
  cases r with
  | ok x => exact ev_unL h
  | er k p => exact h
  | no => exact fun _ _ => trivial
/-! isinstance of what may be None -/
def isoTY (tb : List (Nat × Bool)) (x : Option (Nat × List D)) : R Bool := match x with
  | none => .ok false
  | some x => isoTX tb x
theorem rf_isoTXY {tb : List (Nat × Bool)} {x : Nat × List D} : RefR (isoYD tb (eXp x)) (isoTX tb x) eB := rf_isoTX
theorem rf_isoTY {tb : List (Nat × Bool)} {x : Option (Nat × List D)} : RefR (isoYD tb (eO eXp x)) (isoTY tb x) eB := by
  cases x with
  | none => exact rfl
  | some x => exact rf_isoTX
end BW
/-! BTy21: pairs of a scalar and a new list. -/
namespace BW
open PySem PySem.Spec PyProof.Rows L2
variable {α β : Type} {c : Ce}
theorem scZ : ∀ x : Str, (eZ x).sc.isSome = true := fun _ => rfl
theorem rf_prQ {e1 : α → D} {e2 : β → D} {p : α × List β} (hs : ∀ x, (e1 x).sc.isSome = true) : RefR (prD (eP e1 (eL e2) p)) (.ok p) (eP e1 (eL e2)) := by
  show (if (e1 p.1).sc.isSome = true then R.ok (D.tup [e1 p.1, .lst (p.2.map e2)]) else .no) = _
  rw [if_pos (hs p.1)]
theorem rf_q1 {e1 : α → D} {e2 : β → D} {p : α × List β} : RefR (q1D (eP e1 (eL e2) p)) (.ok p.2) (eL e2) := rfl
theorem ev_Mm {i : Nat} (e : α → D) (x : List α) (h : c[i]? = some (some (.mu (x.map e))) := by rfl) : EvE c (fM i) (.ok x) (eL e) := fun env H => by
  show fM i env = _
  unfold fM
  rw [H.get h]
theorem rf_appD {e : α → D} {l : List α} {x : α} : RefR (appD (eL e l) (e x)) (appT l x) (eL e) := by
  have h := ro_app (e1 := e) (l := l) (x := x)
  cases q : appT l x with
  | ok m =>
    rw [q] at h
    have h : kApp (l.map e) (e x) = some (m.map e) := h
    show (match kApp (l.map e) (e x) with
      | some m => R.ok (D.lst m)
      | none => .no) = _
    rw [h]
  | er k p => rw [q] at h; exact h.elim
  | no => trivial
/-! what is known, said anew -/
theorem sim_lit {Λ Γ ρ : Type} {c c2 : Ce} {g : G} {t : TR Λ Γ ρ} {out : Γ → Ce} {lo : Λ → Ce} {ke : En → Prop} {e : ρ → D} (k : Sim c2 g t out lo ke e) (h : c = c2 := by rfl) : Sim c g t out lo ke e := h ▸ k
end BW
/-! BTy22: names that own all within, typed. -/
namespace BW
open PySem PySem.Spec PyProof.Rows L2
/-- the own names forgotten -/
def noOc : Option Sl → Option Sl
  | some (.ow _) => none
  | x => x
def offO (c : Ce) : Ce := c.map noOc
theorem Has.offO : ∀ {c : Ce} {e : En}, Has c e → Has (BW.offO c) (forO e)
  | _, _, .nil => .nil
  | _, _, .som (s := s) k => by
    cases s <;> first | exact .som k.offO | exact .non k.offO
  | _, _, .non k => .non k.offO
section
variable {α β : Type} {c : Ce} {f : F} {fs : FA}
theorem ev_Lo {i : Nat} (e : α → D) (x : α) (h : c[i]? = some (some (.ow (.d (e x)))) := by rfl) : EvE c (fL i) (.ok x) e := fun env H => by
  show fL i env = _
  unfold fL
  rw [H.get h]
theorem ev_lendO {i : Nat} {d : D} {r : R α} {e : α → D} (h : c[i]? = some (some (.ow (.d d)))) (hl : LF e) (k : EvE ((offO c).set i (some (.im d))) f r e) : EvE c (fLendO i f) r e := fun env H => by
  have q := H.get h
  have k1 := k _ (H.offO.set i (.im d))
  have E : fLendO i f env = (f ((forO env).set i (.im d))).bind lfD := by unfold fLendO frzO; rw [q]
  rw [E]
  cases r with
  | ok x =>
    have k2 : f ((forO env).set i (.im d)) = .ok (e x) := k1
    rw [k2]
    show lfD (e x) = _
    unfold lfD
    rw [if_pos (hl x)]
  | er a p =>
    have k2 : f ((forO env).set i (.im d)) = .er a p := k1
    rw [k2]
    exact rfl
  | no => trivial
/-- arguments that hold no list -/
def LFA (c : Ce) (fs : FA) : Prop := ∀ env, Has c env → ∀ ds, fs env = .ok ds → lfA ds = true
theorem lfa_nil : LFA c aNil := fun env H ds h => by
  cases h
  rfl
theorem lfa_cons {x : α} {e : α → D} (h : EvE c f (.ok x) e) (hl : LF e) (k : LFA c fs) : LFA c (aCons f fs) := fun env H ds q => by
  have h1 : f env = .ok (e x) := h env H
  unfold aCons at q
  rw [h1] at q
  cases hs : fs env with
  | ok es =>
    rw [hs] at q
    have q' : R.ok (e x :: es) = .ok ds := q
    cases q'
    show (lf (e x) && lfA es) = true
    rw [hl x, k env H es hs]
    rfl
  | er a p => rw [hs] at q; cases q
  | no => rw [hs] at q; cases q
theorem ev_Wc {m : List D → R D} {r : R α} {e : α → D} (h : EvE c (fA m fs) r e) (k : LFA c fs) : EvE c (fA (mW m) fs) r e := fun env H => by
  have q : RefR ((fs env).bind m) r e := h env H
  show RefR ((fs env).bind (mW m)) r e
  cases hs : fs env with
  | ok ds =>
    rw [hs] at q
    show RefR (if lfA ds = true then m ds else .no) r e
    rw [if_pos (k env H ds hs)]
    exact q
  | er a p => rw [hs] at q; exact q
  | no => rw [hs] at q; exact q
theorem ev_Wn {m : List D → R D} {r : R α} {e : α → D} (h : EvE c (fLs (fA m fs)) r e) (k : LFA c fs) : EvE c (fA (mW fun ds => (m ds).bind lsD) fs) r e := ev_Wc (fun env H => by
  have q : RefR (((fs env).bind m).bind lsD) r e := h env H
  show RefR ((fs env).bind fun ds => (m ds).bind lsD) r e
  cases hs : fs env with
  | ok ds => rw [hs] at q; exact q
  | er a p => rw [hs] at q; exact q
  | no => rw [hs] at q; exact q) k
end
/-! ### the list's first lists, and its width -/
def wlT {α : Type} (l : List (List α)) : Nat := max l.length ((l.map List.length).foldr max 0)
@[irreducible] def owT {α : Type} (l : List (List α)) (k : Option Nat) : R (Nat × Nat) := if okK k l.length = true ∧ wlT l < sizeLine then .ok (l.length, wlT l + 1) else .no
@[irreducible] def onT (p : Nat × Nat) (k : Option Nat) : R (Nat × Nat) := if okK k p.1 = true ∧ p.2 < sizeLine then .ok (p.1, p.2 + 1) else .no
@[irreducible] def owC {α : Type} (l : List (List α)) (k : Option Nat) : R (Nat × Nat) := if okK k l.length = true then .ok (0, wlT l) else .no
@[irreducible] def onC (p : Nat × Nat) (k : Option Nat) : R (Nat × Nat) := if okK k p.1 = true then .ok (0, p.2) else .no
theorem owT_ok {α : Type} {l : List (List α)} {k : Option Nat} (h1 : okK k l.length = true) (h2 : wlT l < sizeLine) : owT l k = .ok (l.length, wlT l + 1) := by unfold owT; exact if_pos ⟨h1, h2⟩
theorem onT_ok {n b : Nat} {k : Option Nat} (h1 : okK k n = true) (h2 : b < sizeLine) : onT (n, b) k = .ok (n, b + 1) := by unfold onT; exact if_pos (show okK k (n, b).1 = true ∧ (n, b).2 < sizeLine from ⟨h1, h2⟩)
theorem owC_ok {α : Type} {l : List (List α)} {k : Option Nat} (h1 : okK k l.length = true) : owC l k = .ok (0, wlT l) := by unfold owC; exact if_pos h1
theorem onC_ok {n b : Nat} {k : Option Nat} (h1 : okK k n = true) : onC (n, b) k = .ok (0, b) := by unfold onC; exact if_pos (show okK k (n, b).1 = true from h1)
theorem lead_map {α : Type} {e : α → D} : ∀ l : List (List α), lead (l.map (eL e)) = l.length
  | [] => rfl
  | a :: l => congrArg (· + 1) (lead_map l)
theorem wid0_map {α : Type} {e : α → D} : ∀ l : List (List α), wid0 (l.map (eL e)) = (l.map List.length).foldr max 0
  | [] => rfl
  | a :: l => by
    show max (a.map e).length (wid0 (l.map (eL e))) = max a.length _
    rw [List.length_map, wid0_map l]
theorem skO_map {α : Type} {e : α → D} (l : List (List α)) : skO (.d (eL (eL e) l)) = some (l.length, wlT l) := by
  show some (lead (l.map (eL e)), max (l.map (eL e)).length (wid0 (l.map (eL e)))) = _
  rw [lead_map, wid0_map, List.length_map]
  rfl
section
variable {Λ Γ ρ α β : Type} {c : Ce} {f : F} {g : G} {out : Γ → Ce} {lo : Λ → Ce} {ke : En → Prop} {e : ρ → D} {e1 : α → D} {e2 : β → D}
theorem sim_setW {i : Nat} {x : α} {t : TR Λ Γ ρ} (h : EvE c f (.ok x) e1) (k : Sim (c.set i (some (.ow (.d (e1 x))))) g t out lo ke e) : Sim c (gSeq (gSetW i f) g) t out lo ke e :=
  step_p (K := fun d env => .nx (env.set i (.ow (.d d)))) (fun _ => rfl) h (fun env H => ⟨_, rfl, H.set i _⟩) k
theorem sim_setWb {i : Nat} {r : R α} {t : α → TR Λ Γ ρ} (hk : Kp c ke) (h : EvE c f r e1) (k : ∀ x, Sim (c.set i (some (.ow (.d (e1 x))))) g (t x) out lo ke e) : Sim c (gSeq (gSetW i f) g) (TR.ob r t) out lo ke e :=
  step_of (K := fun d env => .nx (env.set i (.ow (.d d)))) hk (fun _ => rfl) h (fun x env H => ⟨_, rfl, H.set i _⟩) k
theorem sim_appWg {i n b : Nat} {k : Option Nat} {o : Ow} {x : α} {r : R (Nat × Nat)} {t : Nat × Nat → TR Λ Γ ρ} (hc : c[i]? = some (some (.ow o))) (hs : skO o = some (n, b)) (hr : r = if okK k n = true ∧ b < sizeLine then .ok (n, b + 1) else .no) (h : EvE c f (.ok x) e1) (kk : ∀ p : Nat × Nat, Sim ((offO c).set i (some (.ow (.n p.1 p.2)))) g (t p) out lo ke e) : Sim c (gSeq (gAppW i k f) g) (TR.ob r t) out lo ke e := by
  subst hr
  by_cases hd : okK k n = true ∧ b < sizeLine
  · rw [if_pos hd]
    intro env H
    have q1 := H.get hc
    have q2 : f env = .ok (e1 x) := h env H
    have E : gAppW i k f env = .nx ((forO env).set i (.ow (.n n (b + 1)))) := by
      unfold gAppW
      rw [q1]
      show (match skO o with
        | some (n, b) => if okK k n = true ∧ b < sizeLine then SR.of env (f env) fun _ => SR.nx ((forO env).set i (.ow (.n n (b + 1)))) else SR.no
        | none => SR.no) = _
      rw [hs]
      show (if okK k n = true ∧ b < sizeLine then SR.of env (f env) fun _ => SR.nx ((forO env).set i (.ow (.n n (b + 1)))) else SR.no) = _
      rw [if_pos hd, q2]
      rfl
    have z := kk (n, b + 1) _ (H.offO.set i (.ow (.n n (b + 1))))
    unfold gSeq
    rw [E]
    exact z
  · rw [if_neg hd]
    exact fun _ _ => trivial
theorem sim_clrWg {i n b : Nat} {k : Option Nat} {o : Ow} {r : R (Nat × Nat)} {t : Nat × Nat → TR Λ Γ ρ} (hc : c[i]? = some (some (.ow o))) (hs : skO o = some (n, b)) (hr : r = if okK k n = true then .ok (0, b) else .no) (kk : ∀ p : Nat × Nat, Sim ((offO c).set i (some (.ow (.n p.1 p.2)))) g (t p) out lo ke e) : Sim c (gSeq (gClrW i k) g) (TR.ob r t) out lo ke e := by
  subst hr
  by_cases hd : okK k n = true
  · rw [if_pos hd]
    intro env H
    have q1 := H.get hc
    have E : gClrW i k env = .nx ((forO env).set i (.ow (.n 0 b))) := by
      unfold gClrW
      rw [q1]
      show (match skO o with
        | some (n, b) => if okK k n = true then SR.nx ((forO env).set i (.ow (.n 0 b))) else SR.no
        | none => SR.no) = _
      rw [hs]
      show (if okK k n = true then SR.nx ((forO env).set i (.ow (.n 0 b))) else SR.no) = _
      rw [if_pos hd]
    have z := kk (0, b) _ (H.offO.set i (.ow (.n 0 b)))
    unfold gSeq
    rw [E]
    exact z
  · rw [if_neg hd]
    exact fun _ _ => trivial
theorem sim_appW {i : Nat} {k : Option Nat} (e0 : β → D) {l : List (List β)} {x : α} {t : Nat × Nat → TR Λ Γ ρ} (hc : c[i]? = some (some (.ow (.d (eL (eL e0) l))))) (h : EvE c f (.ok x) e1) (kk : ∀ p : Nat × Nat, Sim ((offO c).set i (some (.ow (.n p.1 p.2)))) g (t p) out lo ke e) : Sim c (gSeq (gAppW i k f) g) (TR.ob (owT l k) t) out lo ke e := sim_appWg hc (skO_map l) (by unfold owT; rfl) h kk
theorem sim_appWn {i : Nat} {k : Option Nat} {p0 : Nat × Nat} {x : α} {t : Nat × Nat → TR Λ Γ ρ} (hc : c[i]? = some (some (.ow (.n p0.1 p0.2)))) (h : EvE c f (.ok x) e1) (kk : ∀ p : Nat × Nat, Sim ((offO c).set i (some (.ow (.n p.1 p.2)))) g (t p) out lo ke e) : Sim c (gSeq (gAppW i k f) g) (TR.ob (onT p0 k) t) out lo ke e := sim_appWg hc rfl (by unfold onT; rfl) h kk
theorem sim_clrW {i : Nat} {k : Option Nat} (e0 : β → D) {l : List (List β)} {t : Nat × Nat → TR Λ Γ ρ} (hc : c[i]? = some (some (.ow (.d (eL (eL e0) l))))) (kk : ∀ p : Nat × Nat, Sim ((offO c).set i (some (.ow (.n p.1 p.2)))) g (t p) out lo ke e) : Sim c (gSeq (gClrW i k) g) (TR.ob (owC l k) t) out lo ke e := sim_clrWg hc (skO_map l) (by unfold owC; rfl) kk
theorem sim_clrWn {i : Nat} {k : Option Nat} {p0 : Nat × Nat} {t : Nat × Nat → TR Λ Γ ρ} (hc : c[i]? = some (some (.ow (.n p0.1 p0.2)))) (kk : ∀ p : Nat × Nat, Sim ((offO c).set i (some (.ow (.n p.1 p.2)))) g (t p) out lo ke e) : Sim c (gSeq (gClrW i k) g) (TR.ob (onC p0 k) t) out lo ke e := sim_clrWg hc rfl (by unfold onC; rfl) kk
end
end BW
/-! BTy23: a loop that only tests, typed. -/
namespace BW
open PySem PySem.Spec PyProof.Rows L2
section
variable {Λ Γ ρ α : Type} {c : Ce} {f : F} {g : G} {out : Γ → Ce} {lo : Λ → Ce} {ke : En → Prop} {e : ρ → D} {e0 : α → D}
def chkT (t : α → R Bool) : List α → R Bool
  | [] => .ok true
  | a :: l => match t a with
    | .ok true => .ok false
    | .ok false => chkT t l
    | _ => .no
theorem chkT_er {t : α → R Bool} {x : Nat} {y : List D} : ∀ {l : List α}, chkT t l ≠ .er x y
  | [], h => by cases h
  | a :: l, h => by
    unfold chkT at h
    split at h
    · cases h
    · exact chkT_er h
    · cases h
theorem chkT_ok {t : α → R Bool} : ∀ {l : List α}, (∀ a ∈ l, t a = .ok false) → chkT t l = .ok true
  | [], _ => rfl
  | a :: l, h => by
    unfold chkT
    rw [h a List.mem_cons_self]
    exact chkT_ok fun x hx => h x (List.mem_cons_of_mem _ hx)
theorem sim_chk {i j : Nat} {l : List α} {fc : F} {gr : G} {t : α → R Bool} {rv : ρ} {t' : TR Λ Γ ρ} (hc : c[i]? = some (some (.ow (.d (eL e0 l))))) (ht : ∀ a, EvE ((offO c).set j (some (.im (e0 a)))) fc (t a) eB)
    (hr : ∀ a, Sim ((offO c).set j (some (.im (e0 a)))) gr (.rt rv : TR Λ Γ ρ) out lo ke e) (k : Sim (c.set j none) g t' out lo ke e) : Sim c (gSeq (gChk i j fc gr) g) (TR.ob (chkT t l) fun b => cond b t' (.rt rv)) out lo ke e := by
  intro env H
  have q := H.get hc
  have E : gSeq (gChk i j fc gr) g env = SR.sq (chkF fc gr j (forO env) (env.set j .no) (l.map e0)) g := by
    show SR.sq (gChk i j fc gr env) g = _
    unfold gChk
    rw [q]
  have key : ∀ m : List α, match chkT t m with
      | .ok true => chkF fc gr j (forO env) (env.set j .no) (m.map e0) = .nx (env.set j .no)
      | .ok false => chkF fc gr j (forO env) (env.set j .no) (m.map e0) = .rt (e rv)
      | _ => True := by
    intro m
    induction m with
    | nil => exact rfl
    | cons a m ih =>
      have h1 := ht a _ (H.offO.set j (.im (e0 a)))
      have h2 : gr ((forO env).set j (.im (e0 a))) = .rt (e rv) := hr a _ (H.offO.set j (.im (e0 a)))
      have U : chkF fc gr j (forO env) (env.set j .no) ((a :: m).map e0) = (match fc ((forO env).set j (.im (e0 a))) with
        | .ok (.bl b) => cond b (match gr ((forO env).set j (.im (e0 a))) with | .rt r => SR.rt r | _ => SR.no) (chkF fc gr j (forO env) (env.set j .no) (m.map e0))
        | _ => SR.no) := rfl
      rw [U]
      cases hta : t a with
      | er x y =>
        have : chkT t (a :: m) = .no := by unfold chkT; rw [hta]
        rw [this]
        trivial
      | no =>
        have : chkT t (a :: m) = .no := by unfold chkT; rw [hta]
        rw [this]
        trivial
      | ok b =>
        rw [hta] at h1
        have h1' : fc ((forO env).set j (.im (e0 a))) = .ok (.bl b) := h1
        rw [h1']
        cases b with
        | true =>
          have : chkT t (a :: m) = .ok false := by unfold chkT; rw [hta]
          rw [this]
          show (match gr ((forO env).set j (.im (e0 a))) with | .rt r => SR.rt r | _ => SR.no) = _
          rw [h2]
        | false =>
          have : chkT t (a :: m) = chkT t m := by show (match t a with | .ok true => R.ok false | .ok false => chkT t m | _ => .no) = _; rw [hta]
          rw [this]
          exact ih
  have kl := key l
  rw [E]
  cases hch : chkT t l with
  | er x y => exact absurd hch chkT_er
  | no => exact trivial
  | ok b =>
    rw [hch] at kl
    cases b with
    | true =>
      have kl' : chkF fc gr j (forO env) (env.set j .no) (l.map e0) = .nx (env.set j .no) := kl
      rw [kl']
      exact k _ (H.unset j .no)
    | false =>
      have kl' : chkF fc gr j (forO env) (env.set j .no) (l.map e0) = .rt (e rv) := kl
      rw [kl']
      exact rfl
end
end BW
/-! BTy24: own pairs, typed. -/
namespace BW
open PySem PySem.Spec PyProof.Rows L2
theorem lfA_of {α : Type} {e : α → D} (h : LF e) : ∀ l : List α, lfA (l.map e) = true
  | [] => rfl
  | a :: l => by
    show (lf (e a) && lfA (l.map e)) = true
    rw [h a, lfA_of h l]
    rfl
section
variable {Λ Γ ρ α β τ : Type} {c : Ce} {f : F} {g : G} {out : Γ → Ce} {lo : Λ → Ce} {ke : En → Prop} {e : ρ → D} {e1 : α → D} {e2 : β → D}
theorem ev_lendFO {i : Nat} {d : D} {r : R (List τ)} {e : τ → D} (h : c[i]? = some (some (.ow (.d d)))) (hl : LF e) (k : EvE ((offO c).set i (some (.im d))) f r (eL e)) : EvE c (fLendFO i f) r (eL e) := fun env H => by
  have q := H.get h
  have k1 := k _ (H.offO.set i (.im d))
  have E : fLendFO i f env = (f ((forO env).set i (.im d))).bind lfL := by unfold fLendFO frzO; rw [q]
  rw [E]
  cases r with
  | ok x =>
    have k2 : f ((forO env).set i (.im d)) = .ok (eL e x) := k1
    rw [k2]
    show (if lfA (x.map e) = true then R.ok (D.lst (x.map e)) else .no) = _
    rw [if_pos (lfA_of hl x)]
  | er a p =>
    have k2 : f ((forO env).set i (.im d)) = .er a p := k1
    rw [k2]
    exact rfl
  | no => trivial
theorem wqK_ok {i : Nat} {env : En} (hs : ∀ x, (e1 x).sc.isSome = true) (hl : LF e2) (x : α × List β) : wqK i env (eP e1 (eL e2) x) = .nx (env.set i (.ow (.d (eP e1 (eL e2) x)))) := by
  show (if lfA (x.2.map e2) = true ∧ (e1 x.1).sc.isSome = true then SR.nx (env.set i (.ow (.d (.tup [e1 x.1, .lst (x.2.map e2)])))) else .no) = _
  rw [if_pos ⟨lfA_of hl _, hs _⟩]
theorem sim_setWqb {i : Nat} {r : R (α × List β)} {t : α × List β → TR Λ Γ ρ} (hk : Kp c ke) (hs : ∀ x, (e1 x).sc.isSome = true) (hl : LF e2) (h : EvE c f r (eP e1 (eL e2))) (k : ∀ x, Sim (c.set i (some (.ow (.d (eP e1 (eL e2) x))))) g (t x) out lo ke e) : Sim c (gSeq (gSetWq i f) g) (TR.ob r t) out lo ke e :=
  step_of (K := fun d env => wqK i env d) hk (fun _ => rfl) h (fun x env H => ⟨_, wqK_ok hs hl x, H.set i _⟩) k
@[irreducible] def owW {α : Type} (l : List α) : R Unit := if l.length < sizeLine then .ok () else .no
theorem owW_ok {α : Type} {l : List α} (h : l.length < 16777216) : owW l = .ok () := by unfold owW; exact if_pos h
theorem sim_appWt {i : Nat} {x : τ} {e0 : τ → D} {p : α × List β} {t : Unit → TR Λ Γ ρ} (hc : c[i]? = some (some (.ow (.d (eP e1 (eL e2) p))))) (h : EvE c f (.ok x) e0) (k : ∀ u, Sim ((offO c).set i none) g (t u) out lo ke e) : Sim c (gSeq (gAppWt i 1 f) g) (TR.ob (owW p.2) t) out lo ke e := by
  unfold owW
  by_cases hd : p.2.length < sizeLine
  · rw [if_pos hd]
    intro env H
    have q1 := H.get hc
    have q2 : f env = .ok (e0 x) := h env H
    have E : gAppWt i 1 f env = .nx ((forO env).set i .no) := by
      unfold gAppWt
      rw [q1]
      show (if (p.2.map e2).length < sizeLine then SR.of env (f env) fun _ => SR.nx ((forO env).set i .no) else SR.no) = _
      rw [if_pos (by rw [List.length_map]; exact hd), q2]
      rfl
    have z := k () _ (H.offO.unset i .no)
    unfold gSeq
    rw [E]
    exact z
  · rw [if_neg hd]
    exact fun _ _ => trivial
end
end BW
/-! BTy25: sorted(set(..)), typed. -/
namespace BW
open PySem PySem.Spec PyProof.Rows L2
@[irreducible] def sortST (l : List Int) : R (List Int) := if l.length < 64 then .ok (sortS l) else .no
theorem sortST_ok {l : List Int} (h : l.length < 64) : sortST l = .ok (sortS l) := by unfold sortST; exact if_pos h
theorem rf_sortedSet {l : List Int} : RefR (sortedSetD [eL eI l]) (sortST l) (eL eI) := by
  have E : sortedSetD [eL eI l] = if l.length < 64 then R.ok (D.lst ((sortS l).map D.int)) else .no := by
    have z : listInts (eL eI l) = some l := by
      show intsD (l.map eI) = some l
      exact ints_map l
    show (match listInts (eL eI l) with | some ns => if ns.length < 64 then R.ok (D.lst ((sortS ns).map D.int)) else .no | none => .no) = _
    rw [z]
  rw [E]
  unfold sortST
  by_cases h : l.length < 64
  · rw [if_pos h, if_pos h]; exact rfl
  · rw [if_neg h, if_neg h]; exact trivial
theorem rf_sortedSetR {l : List Int} : RefR (sortedSetD [eR l]) (sortST l) (eL eI) := by
  have E : sortedSetD [eR l] = if l.length < 64 then R.ok (D.lst ((sortS l).map D.int)) else .no := rfl
  rw [E]
  unfold sortST
  by_cases h : l.length < 64
  · rw [if_pos h, if_pos h]; exact rfl
  · rw [if_neg h, if_neg h]; exact trivial
section
variable {α : Type} {e2 : α → D}
@[irreducible] def eqPZ [DecidableEq α] (a b : Str × α) : R Bool := if PyData.strOk a.1 && PyData.strOk b.1 then .ok (decide (a = b)) else .no
theorem pyPZ {j : Nat} (q : PlE j e2) (x : Str × α) (h : PyData.strOk x.1 = true) (hj : j ≤ 50) : ∃ b, py (e2 x.2) = some b ∧ py (eP eZ e2 x) = some (.tuple [.str x.1, b]) ∧ SeqAt.shaped (.tuple [.str x.1, b]) = true := by
  obtain ⟨b, f1, f2, f3⟩ := q.py x.2
  refine ⟨b, f1, ?_, ?_⟩
  · show (((py (eZ x.1)).bind fun x1 => ((py (e2 x.2)).bind fun x => (pyA []).map fun xs => x :: xs).map fun xs => x1 :: xs)).map PyData.tuple = _
    rw [f1]; rfl
  · have c1 : PyData.canLay0 (.tuple [.str x.1, b]) = true := by simp [PyData.canLay0, PyData.canLayAll0, h, f2]
    have c2 : (PyData.tuple [.str x.1, b]).depth ≤ 64 := by simp only [PyData.depth, PyData.depthAll]; omega
    unfold SeqAt.shaped
    rw [c1, decide_eq_true c2]
    rfl
theorem rf_eqPZ [DecidableEq α] {j : Nat} (q : PlE j e2) {a b : Str × α} (hj : decide (j ≤ 50) = true := by decide +kernel) : RefR (eqD (eP eZ e2 a) (eP eZ e2 b)) (eqPZ a b) eB := by
  have hj := of_decide_eq_true hj
  unfold eqPZ
  by_cases h : (PyData.strOk a.1 && PyData.strOk b.1) = true
  · rw [if_pos h]
    have h2 := Bool.and_eq_true_iff.mp h
    obtain ⟨x, x0, x1, x2⟩ := pyPZ q a h2.1 hj
    obtain ⟨y, y0, y1, y2⟩ := pyPZ q b h2.2 hj
    show eqD (eP eZ e2 a) (eP eZ e2 b) = .ok (.bl (decide (a = b)))
    rw [eqD_eqG]
    unfold eqG
    rw [x1, y1]
    show (if (SeqAt.shaped (.tuple [.str a.1, x]) && SeqAt.shaped (.tuple [.str b.1, y])) = true then R.ok (D.bl (PyData.eqv (.tuple [.str a.1, x]) (.tuple [.str b.1, y]))) else .no) = _
    rw [x2, y2]
    show R.ok (D.bl (PyData.eqv (.tuple [.str a.1, x]) (.tuple [.str b.1, y]))) = _
    congr 2
    have k1 := q.eqv a.2 b.2 x y x0 y0
    have k2 : PyData.eqv (.tuple [.str a.1, x]) (.tuple [.str b.1, y]) = true ↔ a = b := by
      simp only [PyData.eqv, PyData.eqvAll, Bool.and_eq_true, k1, Bool.and_true, beq_iff_eq]
      exact ⟨fun h => Prod.ext h.1 h.2, fun h => by rw [h]; exact ⟨rfl, rfl⟩⟩
    by_cases c : a = b
    · rw [k2.mpr c, decide_eq_true c]
    · rw [decide_eq_false c]
      cases hx : PyData.eqv (.tuple [.str a.1, x]) (.tuple [.str b.1, y]) with
      | true => exact absurd (k2.mp hx) c
      | false => rfl
  · rw [if_neg h]; trivial
theorem rf_nePZ [DecidableEq α] {j : Nat} (q : PlE j e2) {a b : Str × α} (hj : decide (j ≤ 50) = true := by decide +kernel) : RefR (neD (eP eZ e2 a) (eP eZ e2 b)) ((eqPZ a b).map (!·)) eB := by
  have h := rf_eqPZ q (a := a) (b := b) hj
  show RefR ((eqD (eP eZ e2 a) (eP eZ e2 b)).bind notD) _ _
  cases hq : eqPZ a b with
  | ok k => rw [hq] at h; exact refR_p (e1 := eB) h rfl
  | er n p =>
    rw [hq] at h
    have h : eqD (eP eZ e2 a) (eP eZ e2 b) = .er n p := h
    rw [h]; exact rfl
  | no => trivial
end
theorem rf_lenP {α β : Type} {e1 : α → D} {e2 : β → D} {x : α × β} : RefR (lenD [eP e1 e2 x]) (.ok 2) eI := rfl
theorem rf_lenP3 {α β γ : Type} {e1 : α → D} {e2 : β → D} {e3 : γ → D} {x : α × β × γ} : RefR (lenD [eP3 e1 e2 e3 x]) (.ok 3) eI := rfl
end BW
/-! BTy26: sorted(dict), typed. -/
namespace BW
open PySem PySem.Spec PyProof.Rows L2
@[irreducible] def sortDT (l : List Int) : R (List Int) := if l.length < 64 then .ok (sortI l) else .no
theorem sortDT_ok {l : List Int} (h : l.length < 64) : sortDT l = .ok (sortI l) := by unfold sortDT; exact if_pos h
theorem rf_sortedDD {α : Type} {e : α → D} {t : List (Int × α)} : RefR (sortedDD [eDc e t]) (sortDT (kD t)) (eL eI) := by
  have E : sortedDD [eDc e t] = if (kD t).length < 64 then R.ok (D.lst ((sortI (kD t)).map D.int)) else .no := rfl
  rw [E]
  unfold sortDT
  by_cases h : (kD t).length < 64
  · rw [if_pos h, if_pos h]; exact rfl
  · rw [if_neg h, if_neg h]; exact trivial
end BW
/-! BTy27: texts, typed. -/
namespace BW
open PySem PySem.Spec PyProof.Rows L2
theorem rf_zs {z : Str} : RefR (zsD (eZ z)) (.ok z) eZ := rfl
@[irreducible] def joinT (a : Str) (l : List Str) : R Str := if (l.map Str.length).sum + l.length * a.length ≤ 16777216 then .ok (Txt.join a l) else .no
theorem joinT_ok {a : Str} {l : List Str} (h : (l.map Str.length).sum + l.length * a.length ≤ 16777216) : joinT a l = .ok (Txt.join a l) := by unfold joinT; exact if_pos h
theorem rf_join {a : Str} {l : List Str} : RefR (joinD (eZ a) (eL eZ l)) (joinT a l) eZ := by
  have E : joinD (eZ a) (eL eZ l) = if (l.map Str.length).sum + l.length * a.length ≤ 16777216 then R.ok (D.str (Txt.join a l)) else .no := by
    show (match strsD (l.map D.str) with | some ys => if (ys.map Str.length).sum + ys.length * a.length ≤ 16777216 then R.ok (D.str (Txt.join a ys)) else .no | none => .no) = _
    rw [strs_map]
  rw [E]
  unfold joinT
  exact ref_ite (e := eZ) rfl
@[irreducible] def splitT (a b : Str) : R (List Str) := if (b.length == 0) = false ∧ a.length + 2 ≤ 16777216 then .ok (Txt.split a b) else .no
theorem splitT_ok {a b : Str} (h : (b.length == 0) = false ∧ a.length + 2 ≤ 16777216) : splitT a b = .ok (Txt.split a b) := by unfold splitT; exact if_pos h
theorem rf_split {a b : Str} : RefR (splitD (eZ a) (eZ b)) (splitT a b) (eL eZ) := by
  unfold splitT
  show RefR (if (b.length == 0) = false ∧ a.length + 2 ≤ sizeLine then .ok (.lst ((Txt.split a b).map D.str)) else .no) _ _
  rw [sz_line]
  exact ref_ite (e := eL eZ) rfl
def signsT (z : Str) : List Str := z.cps.toList.map fun c => ⟨#[c]⟩
theorem rf_signs {z : Str} : RefR (signsD (eZ z)) (.ok (signsT z)) (eL eZ) := by
  show R.ok (D.lst (z.cps.toList.map fun c => D.str ⟨#[c]⟩)) = .ok (.lst ((z.cps.toList.map fun c => (⟨#[c]⟩ : Str)).map eZ))
  rw [List.map_map]
  rfl
@[irreducible] def intZ (z : Str) : R Int := if z.length ≤ 640 then (match intText? z with | some n => .ok n | none => .no) else .no
theorem intZ_ok {z : Str} {n : Int} (h : z.length ≤ 640) (k : intText? z = some n) : intZ z = .ok n := by unfold intZ; rw [if_pos h, k]
theorem rf_intS {z : Str} : RefR (intSD [eZ z]) (intZ z) eI := by
  unfold intZ
  show RefR (if z.length ≤ 640 then (match intText? z with | some n => R.ok (D.int n) | none => .no) else .no) _ _
  by_cases h : z.length ≤ 640
  · rw [if_pos h, if_pos h]
    cases intText? z with
    | none => trivial
    | some n => exact rfl
  · rw [if_neg h, if_neg h]; trivial
theorem rf_intSI {i : Int} : RefR (intSD [eI i]) (.ok i) eI := rfl
@[irreducible] def mulZ (z : Str) (n : Int) : R Str := if 2 ≤ n ∧ n ≤ 10000 ∧ z.length = 1 then .ok (repZ z n) else .no
theorem mulZ_ok {z : Str} {n : Int} (h : 2 ≤ n ∧ n ≤ 10000 ∧ z.length = 1) : mulZ z n = .ok (repZ z n) := by unfold mulZ; exact if_pos h
theorem rf_mulS {z : Str} {n : Int} : RefR (mulSD (eZ z) (eI n)) (mulZ z n) eZ := by
  unfold mulZ
  show RefR (if 2 ≤ n ∧ n ≤ 10000 ∧ z.length = 1 then R.ok (D.str (repZ z n)) else .no) _ _
  exact ref_ite (e := eZ) rfl
@[irreducible] def ixZ (z : Str) (i : Int) : R Str := if z.length ≤ 16777216 then (match atI z.cps.toList i with | some c => .ok ⟨#[c]⟩ | none => .no) else .no
theorem rf_ixZ {z : Str} {i : Int} : RefR (ixD (eZ z) (eI i)) (ixZ z i) eZ := by
  unfold ixZ
  show RefR (if z.length ≤ sizeLine then (match atI z.cps.toList i with | some c => R.ok (D.str ⟨#[c]⟩) | none => .no) else .no) _ _
  rw [sz_line]
  by_cases h : z.length ≤ 16777216
  · rw [if_pos h, if_pos h]
    cases atI z.cps.toList i with
    | none => trivial
    | some n => exact rfl
  · rw [if_neg h, if_neg h]; trivial
def inZ (x z : Str) : Bool := !(Builtin.Str.occurrences z x 0 z.length 1).isEmpty
theorem rf_inZ {x z : Str} : RefR (inD (eZ x) (eZ z)) (.ok (inZ x z)) eB := rfl
theorem in_opt : ∀ (x : Option Int) (l : List (Option Int)), allSc (l.map (eO eI)) = true ∧ (l.map (eO eI)).any (fun y => eqS y (eO eI x)) = decide (x ∈ l)
  | x, [] => ⟨rfl, by simp⟩
  | x, y :: l => by
    obtain ⟨h1, h2⟩ := in_opt x l
    refine ⟨?_, ?_⟩
    · show ((eO eI y).sc.isSome && allSc (l.map (eO eI))) = true
      rw [h1]
      cases y <;> rfl
    · rw [List.map_cons, List.any_cons, h2]
      have e : eqS (eO eI y) (eO eI x) = decide (y = x) := by
        cases y with
        | none => cases x <;> rfl
        | some a =>
          cases x with
          | none => rfl
          | some b =>
            show (a == b) = decide (some a = some b)
            by_cases c : a = b
            · subst c; simp
            · simp [c]
      rw [e]
      by_cases c : y = x
      · subst c; simp
      · have : ¬ x = y := fun z => c z.symm
        simp [c, this]
theorem rf_inO {x : Option Int} {l : List (Option Int)} : RefR (inD (eO eI x) (eL (eO eI) l)) (.ok (decide (x ∈ l))) eB := by
  obtain ⟨h1, h2⟩ := in_opt x l
  show inD (eO eI x) (.lst (l.map (eO eI))) = .ok (.bl (decide (x ∈ l)))
  rw [inD_lst, h1, h2]
  have : (eO eI x).sc.isSome = true := by cases x <;> rfl
  rw [this]
  rfl
section
variable {α : Type} {e : α → D}
def unOs : List (Option α) → R (List α)
  | [] => .ok []
  | none :: _ => .no
  | some a :: l => (unOs l).map (a :: ·)
theorem unOs_some : ∀ l : List α, unOs (l.map some) = .ok l
  | [] => rfl
  | a :: l => by
    show (unOs (l.map some)).map (a :: ·) = _
    rw [unOs_some l]; rfl
theorem unOs_inv : ∀ {l : List (Option α)} {m : List α}, unOs l = .ok m → l = m.map some
  | [], m, h => by cases h; rfl
  | none :: _, m, h => by cases h
  | some a :: l, m, h => by
    have h : (unOs l).map (a :: ·) = .ok m := h
    cases hl : unOs l with
    | ok y => rw [hl] at h; cases h; rw [unOs_inv hl]; rfl
    | er c p => rw [hl] at h; cases h
    | no => rw [hl] at h; cases h
theorem unOs_ner : ∀ (l : List (Option α)) (c : Nat) (p : List D), unOs l ≠ .er c p
  | [], _, _, h => by cases h
  | none :: _, _, _, h => by cases h
  | some a :: l, c, p, h => by
    have h : (unOs l).map (a :: ·) = .er c p := h
    cases hl : unOs l with
    | ok y => rw [hl] at h; cases h
    | er c' p' => exact unOs_ner l c' p' hl
    | no => rw [hl] at h; cases h
theorem ev_unOs {c : Ce} {f : F} {x : List (Option α)} (h : EvE c f (.ok x) (eL (eO e))) : EvE c f (unOs x) (eL e) := fun env H => by
  have q : f env = .ok (eL (eO e) x) := h env H
  cases hl : unOs x with
  | ok y =>
    rw [unOs_inv hl] at q
    show f env = .ok (.lst (y.map e))
    rw [q]
    show R.ok (D.lst ((y.map some).map (eO e))) = _
    rw [List.map_map]
    rfl
  | er a p => exact absurd hl (unOs_ner x a p)
  | no => trivial
theorem ev_unOsb {c : Ce} {f : F} {r : R (List (Option α))} (h : EvE c f r (eL (eO e))) : EvE c f (r.bind unOs) (eL e) := fun env H => by
  have q := h env H
  cases r with
  | ok x => exact ev_unOs (c := c) (fun env H => h env H) env H
  | er a p => exact q
  | no => trivial
end
end BW
namespace BW.Wk
open PySem PySem.Spec PyProof.Rows L2
open Evl (Ex Ex.refl Ex.trans Ex.new ex_rd ex_l ex_t)
def topS (i : Nat) : Stmt := PySem.Challenge.pw_busyweb_k69_webs_as_texts.main.body.getD i (.Pass ⟨0, 0, 0, 0⟩)
abbrev s_number_told : Stmt := topS 12
abbrev s_numbers_told : Stmt := topS 13
abbrev s_web_text : Stmt := topS 14
abbrev s_row_told : Stmt := topS 15
abbrev s_read_web : Stmt := topS 16
abbrev s_flow_text : Stmt := topS 17
abbrev s__law_cell : Stmt := topS 19
abbrev s__law_ends : Stmt := topS 20
abbrev s__law_drawn : Stmt := topS 21
abbrev s__law_amounts : Stmt := topS 22
abbrev s__law_whole : Stmt := topS 23
abbrev s__law_is_web : Stmt := topS 24
abbrev s__law_text : Stmt := topS 25
abbrev s__law_number : Stmt := topS 26
abbrev s__law_words : Stmt := topS 27
abbrev s_law : Stmt := topS 28
abbrev s_Web___init__ : Stmt := BW.clsS (topS 8) 0
abbrev n_Web___init__ : List Str := BW.nWeb
theorem sc_Web___init__ : FnScope n_Web___init__ ["self", "many", "ties"] (defScope s_Web___init__) := ⟨rfl, rfl, rfl, by decide +kernel, rfl, by decide +kernel, by decide +kernel⟩
abbrev s_BadText___init__ : Stmt := BW.clsS (topS 4) 0
theorem sc_BadText___init__ : FnScope ["self", "at"] ["self", "at"] (defScope s_BadText___init__) := ⟨rfl, rfl, rfl, by decide +kernel, rfl, by decide +kernel, by decide +kernel⟩
abbrev n_number_told : List Str := ["text", "figures", "sign"]
theorem sc_number_told : FnScope n_number_told ["text"] (defScope s_number_told) := ⟨rfl, rfl, rfl, by decide +kernel, rfl, by decide +kernel, by decide +kernel⟩
abbrev n_numbers_told : List Str := ["words", "found", "word"]
theorem sc_numbers_told : FnScope n_numbers_told ["words"] (defScope s_numbers_told) := ⟨rfl, rfl, rfl, by decide +kernel, rfl, by decide +kernel, by decide +kernel⟩
abbrev n_web_text : List Str := ["web", "rows", "ends"]
theorem sc_web_text : FnScope n_web_text ["web"] (defScope s_web_text) := ⟨rfl, rfl, rfl, by decide +kernel, rfl, by decide +kernel, by decide +kernel⟩
abbrev n_row_told : List Str := ["row", "word", "many", "at", "words", "numbers"]
theorem sc_row_told : FnScope n_row_told ["row", "word", "many", "at"] (defScope s_row_told) := ⟨rfl, rfl, rfl, by decide +kernel, rfl, by decide +kernel, by decide +kernel⟩
abbrev n_read_web : List Str := ["text", "rows", "places", "ties", "k", "numbers"]
theorem sc_read_web : FnScope n_read_web ["text"] (defScope s_read_web) := ⟨rfl, rfl, rfl, by decide +kernel, rfl, by decide +kernel, by decide +kernel⟩
abbrev n_flow_text : List Str := ["flow", "amount"]
theorem sc_flow_text : FnScope n_flow_text ["flow"] (defScope s_flow_text) := ⟨rfl, rfl, rfl, by decide +kernel, rfl, by decide +kernel, by decide +kernel⟩
abbrev n__law_cell : List Str := ["_law_script", "_law_k"]
theorem sc__law_cell : FnScope n__law_cell ["_law_script", "_law_k"] (defScope s__law_cell) := ⟨rfl, rfl, rfl, by decide +kernel, rfl, by decide +kernel, by decide +kernel⟩
abbrev n__law_ends : List Str := ["_law_script", "_law_many", "_law_count", "_law_way", "_law_found", "_law_rest", "_law_k", "_law_cell_here"]
theorem sc__law_ends : FnScope n__law_ends ["_law_script", "_law_many", "_law_count", "_law_way"] (defScope s__law_ends) := ⟨rfl, rfl, rfl, by decide +kernel, rfl, by decide +kernel, by decide +kernel⟩
abbrev n__law_drawn : List Str := ["_law_script", "_law_first", "_law_many"]
theorem sc__law_drawn : FnScope n__law_drawn ["_law_script"] (defScope s__law_drawn) := ⟨rfl, rfl, rfl, by decide +kernel, rfl, by decide +kernel, by decide +kernel⟩
abbrev n__law_amounts : List Str := ["_law_script", "_law_count", "_law_way", "_law_found", "_law_rest", "_law_k", "_law_cell_here", "_law_amount"]
theorem sc__law_amounts : FnScope n__law_amounts ["_law_script", "_law_count", "_law_way"] (defScope s__law_amounts) := ⟨rfl, rfl, rfl, by decide +kernel, rfl, by decide +kernel, by decide +kernel⟩
abbrev n__law_whole : List Str := ["_law_found"]
theorem sc__law_whole : FnScope n__law_whole ["_law_found"] (defScope s__law_whole) := ⟨rfl, rfl, rfl, by decide +kernel, rfl, by decide +kernel, by decide +kernel⟩
abbrev n__law_is_web : List Str := ["_law_web", "_law_many", "_law_ends_here", "_law_tie"]
theorem sc__law_is_web : FnScope n__law_is_web ["_law_web", "_law_many", "_law_ends_here"] (defScope s__law_is_web) := ⟨rfl, rfl, rfl, by decide +kernel, rfl, by decide +kernel, by decide +kernel⟩
abbrev n__law_text : List Str := ["_law_many", "_law_ends_here", "_law_rows", "_law_one", "_law_two"]
theorem sc__law_text : FnScope n__law_text ["_law_many", "_law_ends_here"] (defScope s__law_text) := ⟨rfl, rfl, rfl, by decide +kernel, rfl, by decide +kernel, by decide +kernel⟩
abbrev n__law_number : List Str := ["_law_word", "_law_body", "_law_sign"]
theorem sc__law_number : FnScope n__law_number ["_law_word"] (defScope s__law_number) := ⟨rfl, rfl, rfl, by decide +kernel, rfl, by decide +kernel, by decide +kernel⟩
abbrev n__law_words : List Str := ["_law_cell_here", "_law_word", "_law_signs", "_law_sign", "_law_at", "_law_menu"]
theorem sc__law_words : FnScope n__law_words ["_law_cell_here"] (defScope s__law_words) := ⟨rfl, rfl, rfl, by decide +kernel, rfl, by decide +kernel, by decide +kernel⟩
abbrev n_law : List Str := ["_law_script", "_law_many", "_law_ends_here", "_law_web", "_law_text_here", "_law_found", "_law_flow", "_law_shown", "_law_cell_here", "_law_word", "_law_due", "_law_number_here", "_law_amount"]
theorem sc_law : FnScope n_law ["_law_script"] (defScope s_law) := ⟨rfl, rfl, rfl, by decide +kernel, rfl, by decide +kernel, by decide +kernel⟩
def b1_number_told : G := gIf (f2 ninD (fI 2) (fC (.str "0123456789"))) (gRet (fC .non)) gNext
def g_number_told : G := gSeq (gSet 1 (fI 0))
  (gSeq (gIf (f2 eqD (fSl (fI 0) oN (oS (fC (.int 1)))) (fC (.str "-"))) (gSet 1 (fSl (fI 0) (oS (fC (.int 1))) oN)) gNext)
  (gSeq (gIf (fOr (f2 eqD (fI 1) (fC (.str ""))) (fOr (f2 gtD (fA lenD (aCons (fI 1) aNil)) (fC (.int 60))) (f2 eqD (fI 0) (fC (.str "-0"))))) (gRet (fC .non)) gNext)
  (gSeq (gIf (fAnd (f2 eqD (f2 ixD (fI 1) (fC (.int 0))) (fC (.str "0"))) (f2 gtD (fA lenD (aCons (fI 1) aNil)) (fC (.int 1)))) (gRet (fC .non)) gNext)
  (gSeq (gFor (f1 signsD (fI 1)) (tN 2) b1_number_told)
  (gRet (fA intSD (aCons (fI 0) aNil)))))))
def m_number_told : List D → R D := defD n_number_told.length [true] g_number_told
theorem u_number_told (a0 : D) : m_number_told [a0] = outD (g_number_told [.im a0, .no, .no]) := rfl
def y1_numbers_told : F := fA m_number_told (aCons (fI 2) aNil)
def g_numbers_told : G := gSeq (gSet 1 (fLs (fLc (f1 seqD (fI 0)) (tN 2) (fC (.bl true)) y1_numbers_told [2])))
  (gSeq (gIf (f2 inD (fC .non) (fI 1)) (gRet (fC .non)) gNext)
  (gRet (fI 1)))
def m_numbers_told : List D → R D := defD n_numbers_told.length [true] g_numbers_told
theorem u_numbers_told (a0 : D) : m_numbers_told [a0] = outD (g_numbers_told [.im a0, .no, .no]) := rfl
def b1_web_text : G := gMut 1 (f2 addD (f2 addD (f2 addD (fC (.str "tie ")) (fA strD (aCons (f2 ixD (fI 2) (fC (.int 0))) aNil))) (fC (.str " "))) (fA strD (aCons (f2 ixD (fI 2) (fC (.int 1))) aNil))) kApp
def g_web_text : G := gSeq (gSetM 1 (fA lstD (aCons (f2 addD (fC (.str "places ")) (fA strD (aCons (f1 (atD 0 "many") (fI 0)) aNil))) aNil)))
  (gSeq (gFor (f1 seqD (f1 (atD 0 "ties") (fI 0))) (tN 2) b1_web_text)
  (gRet (f2 addD (f2 joinD (f1 zsD (fC (.str "\n"))) (fLs (fV 1))) (fC (.str "\n")))))
def m_web_text : List D → R D := defD n_web_text.length [true] g_web_text
theorem u_web_text (a0 : D) : m_web_text [a0] = outD (g_web_text [.im a0, .no, .no]) := rfl
def g_row_told : G := gSeq (gSet 4 (fLs (f2 splitD (f1 zsD (fI 0)) (f1 zsD (fC (.str " "))))))
  (gSeq (gSet 5 (fA m_numbers_told (aCons (fSl (fI 4) (oS (fC (.int 1))) oN) aNil)))
  (gSeq (gIf (fOr (f2 neD (f2 ixD (fI 4) (fC (.int 0))) (fI 1)) (fOr (f2 neD (fA lenD (aCons (fI 4) aNil)) (f2 addD (fI 2) (fC (.int 1)))) (f2 isD (fI 5) (fC .non)))) (gRaise1 12 (fI 3)) gNext)
  (gRet (fI 5))))
def m_row_told : List D → R D := defD n_row_told.length [true, true, true, true] g_row_told
theorem u_row_told (a0 a1 a2 a3 : D) : m_row_told [a0, a1, a2, a3] = outD (g_row_told [.im a0, .im a1, .im a2, .im a3, .no, .no]) := rfl
def b1_read_web : G := gSeq (gSet 5 (fA m_row_told (aCons (f2 ixD (fI 1) (fI 4)) (aCons (fC (.str "tie")) (aCons (fC (.int 2)) (aCons (f2 addD (fI 4) (fC (.int 1))) aNil))))))
  (gMut 3 (fA tupD (aCons (f2 ixD (fI 5) (fC (.int 0))) (aCons (f2 ixD (fI 5) (fC (.int 1))) aNil))) kApp)
def g_read_web : G := gSeq (gSet 1 (fLs (f2 splitD (f1 zsD (fI 0)) (f1 zsD (fC (.str "\n"))))))
  (gSeq (gIf (f2 eqD (fA lenD (aCons (fI 1) aNil)) (fC (.int 1))) (gRaise1 12 (fC (.int 1))) gNext)
  (gSeq (gSet 2 (fA m_row_told (aCons (f2 ixD (fI 1) (fC (.int 0))) (aCons (fC (.str "places")) (aCons (fC (.int 1)) (aCons (fC (.int 1)) aNil))))))
  (gSeq (gSetM 3 (fA lstD aNil))
  (gSeq (gFor (fA rangeD (aCons (fC (.int 1)) (aCons (f2 subD (fA lenD (aCons (fI 1) aNil)) (fC (.int 1))) aNil))) (tN 4) b1_read_web)
  (gSeq (gIf (f2 neD (f2 ixD (fI 1) (f1 negD (fC (.int 1)))) (fC (.str ""))) (gRaise1 12 (fA lenD (aCons (fI 1) aNil))) gNext)
  (gRet (f1 lfD (fA webD (aCons (f2 ixD (fI 2) (fC (.int 0))) (aCons (fLs (fV 3)) aNil))))))))))
def m_read_web : List D → R D := defD n_read_web.length [true] g_read_web
theorem u_read_web (a0 : D) : m_read_web [a0] = outD (g_read_web [.im a0, .no, .no, .no, .no, .no]) := rfl
def y1_flow_text : F := fA strD (aCons (fI 1) aNil)
def g_flow_text : G := gRet (f2 joinD (f1 zsD (fC (.str " "))) (fLs (f2 catD (fLs (fA lstD (aCons (fC (.str "flow")) aNil))) (fLs (fLc (f1 seqD (fI 0)) (tN 1) (fC (.bl true)) y1_flow_text [1])))))
def m_flow_text : List D → R D := defD n_flow_text.length [true] g_flow_text
theorem u_flow_text (a0 : D) : m_flow_text [a0] = outD (g_flow_text [.im a0, .no]) := rfl
def g__law_cell : G := gSeq (gIf (f2 ltD (fI 1) (fA lenD (aCons (fI 0) aNil))) (gRet (f2 ixD (fI 0) (fI 1))) gNext)
  (gRet (fC (.int 0)))
def m__law_cell : List D → R D := defD n__law_cell.length [true, true] g__law_cell
theorem u__law_cell (a0 a1 : D) : m__law_cell [a0, a1] = outD (g__law_cell [.im a0, .im a1]) := rfl
def b1__law_ends : G := gSeq (gSet 7 (fA m__law_cell (aCons (fI 0) (aCons (f2 addD (fC (.int 2)) (fI 6)) aNil))))
  (gSeq (gIf (f2 eqD (fI 3) (fC (.int 1))) (gSeq (gSet 7 (f2 modD (fI 5) (f2 mulD (fI 1) (fI 1))))
  (gSet 5 (f2 fdivD (fI 5) (f2 mulD (fI 1) (fI 1))))) gNext)
  (gSeq (gIf (f2 eqD (fI 3) (fC (.int 2))) (gSeq (gSet 5 (f2 modD (f2 mulD (f2 addD (f2 addD (fI 5) (f2 mulD (fC (.int 977)) (fI 6))) (fC (.int 1))) (fC (.int 48271))) (fC (.int 1000000007))))
  (gSeq (gSet 5 (f2 modD (f2 mulD (fI 5) (fI 5)) (fC (.int 998244353))))
  (gSet 7 (f2 fdivD (fI 5) (fC (.int 8)))))) gNext)
  (gMut 4 (fA tupD (aCons (f2 modD (fI 7) (fI 1)) (aCons (f2 modD (f2 fdivD (fI 7) (fI 1)) (fI 1)) aNil))) kApp)))
def g__law_ends : G := gSeq (gSetM 4 (fA lstD aNil))
  (gSeq (gSet 5 (fA m__law_cell (aCons (fI 0) (aCons (fC (.int 1)) aNil))))
  (gSeq (gIf (f2 eqD (fI 3) (fC (.int 2))) (gSet 5 (f2 modD (fI 5) (fC (.int 1000000007)))) gNext)
  (gSeq (gFor (fA rangeD (aCons (fI 2) aNil)) (tN 6) b1__law_ends)
  (gRetM 4))))
def m__law_ends : List D → R D := defN n__law_ends.length [true, true, true, true] g__law_ends
theorem u__law_ends (a0 a1 a2 a3 : D) : m__law_ends [a0, a1, a2, a3] = outN (g__law_ends [.im a0, .im a1, .im a2, .im a3, .no, .no, .no, .no]) := rfl
def g__law_drawn : G := gSeq (gSet 1 (fA m__law_cell (aCons (fI 0) (aCons (fC (.int 0)) aNil))))
  (gSeq (gIf (f2 eqD (f2 modD (fI 1) (fC (.int 2))) (fC (.int 1))) (gSeq (gSet 1 (f2 modD (f2 addD (f2 mulD (f2 modD (fI 1) (fC (.int 1000000007))) (fC (.int 48271))) (fC (.int 11))) (fC (.int 2147483647))))
  (gSet 1 (f2 modD (f2 mulD (fI 1) (fI 1)) (fC (.int 998244353))))) gNext)
  (gSeq (gSet 2 (f2 addD (fC (.int 1)) (f2 modD (fI 1) (fC (.int 20)))))
  (gRet (fA tupD (aCons (fI 2) (aCons (fLs (fA m__law_ends (aCons (fI 0) (aCons (fI 2) (aCons (f2 modD (f2 fdivD (fI 1) (fC (.int 60))) (fC (.int 41))) (aCons (f2 modD (f2 fdivD (fI 1) (fC (.int 20))) (fC (.int 3))) aNil)))))) aNil))))))
def m__law_drawn : List D → R D := defD n__law_drawn.length [true] g__law_drawn
theorem u__law_drawn (a0 : D) : m__law_drawn [a0] = outD (g__law_drawn [.im a0, .no, .no]) := rfl
def b1__law_amounts : G := gSeq (gSet 6 (fA m__law_cell (aCons (fI 0) (aCons (f2 addD (fC (.int 2)) (fI 5)) aNil))))
  (gSeq (gIf (f2 eqD (fI 2) (fC (.int 1))) (gSeq (gSet 6 (f2 modD (fI 4) (fC (.int 30))))
  (gSet 4 (f2 fdivD (fI 4) (fC (.int 30))))) gNext)
  (gSeq (gSet 7 (f2 modD (f2 fdivD (fI 6) (fC (.int 3))) (f2 powD (fC (.int 10)) (fC (.int 39)))))
  (gSeq (gIf (f2 eqD (f2 modD (fI 6) (fC (.int 3))) (fC (.int 1))) (gSet 7 (f1 negD (fI 7))) gNext)
  (gSeq (gIf (f2 eqD (f2 modD (fI 6) (fC (.int 3))) (fC (.int 2))) (gSet 7 (f2 subD (f2 modD (fI 7) (fC (.int 3))) (fC (.int 1)))) gNext)
  (gMut 3 (fI 7) kApp)))))
def g__law_amounts : G := gSeq (gSetM 3 (fA lstD aNil))
  (gSeq (gSet 4 (fA m__law_cell (aCons (fI 0) (aCons (fC (.int 1)) aNil))))
  (gSeq (gFor (fA rangeD (aCons (fI 1) aNil)) (tN 5) b1__law_amounts)
  (gRetM 3)))
def m__law_amounts : List D → R D := defN n__law_amounts.length [true, true, true] g__law_amounts
theorem u__law_amounts (a0 a1 a2 : D) : m__law_amounts [a0, a1, a2] = outN (g__law_amounts [.im a0, .im a1, .im a2, .no, .no, .no, .no, .no]) := rfl
def g__law_whole : G := gRet (fAnd (f1 (isiS "int") (fI 0)) (fNot (f1 (isiS "bool") (fI 0))))
def m__law_whole : List D → R D := defD n__law_whole.length [true] g__law_whole
theorem u__law_whole (a0 : D) : m__law_whole [a0] = outD (g__law_whole [.im a0]) := rfl
def b1__law_is_web : G := gIf (fOr (fNot (f1 (isiS "tuple") (fI 3))) (fOr (fNot (fA m__law_whole (aCons (f2 ixD (fI 3) (fC (.int 0))) aNil))) (fNot (fA m__law_whole (aCons (f2 ixD (fI 3) (fC (.int 1))) aNil))))) (gRet (fC (.bl false))) gNext
def g__law_is_web : G := gSeq (gIf (fOr (fNot (f1 (isoD [(0, true)]) (fI 0))) (fOr (fNot (fA m__law_whole (aCons (f1 (atD 0 "many") (fI 0)) aNil))) (fOr (f2 neD (f1 (atD 0 "many") (fI 0)) (fI 1)) (fNot (f1 (isiS "tuple") (f1 (atD 0 "ties") (fI 0))))))) (gRet (fC (.bl false))) gNext)
  (gSeq (gIf (f2 neD (fLs (fA listD (aCons (f1 (atD 0 "ties") (fI 0)) aNil))) (fI 2)) (gRet (fC (.bl false))) gNext)
  (gSeq (gFor (f1 seqD (f1 (atD 0 "ties") (fI 0))) (tN 3) b1__law_is_web)
  (gRet (fC (.bl true)))))
def m__law_is_web : List D → R D := defD n__law_is_web.length [true, true, true] g__law_is_web
theorem u__law_is_web (a0 a1 a2 : D) : m__law_is_web [a0, a1, a2] = outD (g__law_is_web [.im a0, .im a1, .im a2, .no]) := rfl
def y1__law_text : F := f2 addD (f2 addD (f2 addD (f2 addD (fC (.str "tie ")) (fA strD (aCons (fI 3) aNil))) (fC (.str " "))) (fA strD (aCons (fI 4) aNil))) (fC (.str "\n"))
def g__law_text : G := gSeq (gSet 2 (fLs (fA lstD (aCons (f2 addD (f2 addD (fC (.str "places ")) (fA strD (aCons (fI 0) aNil))) (fC (.str "\n"))) aNil))))
  (gRet (f2 joinD (f1 zsD (fC (.str ""))) (fLs (f2 catD (fLs (fI 2)) (fLs (fLc (f1 seqD (fI 1)) (tT 2 (tsCons (tN 3) (tsCons (tN 4) tsNil))) (fC (.bl true)) y1__law_text [3, 4]))))))
def m__law_text : List D → R D := defD n__law_text.length [true, true] g__law_text
theorem u__law_text (a0 a1 : D) : m__law_text [a0, a1] = outD (g__law_text [.im a0, .im a1, .no, .no, .no]) := rfl
def b1__law_number : G := gIf (f2 ninD (fI 2) (fC (.str "0123456789"))) (gRet (fC .non)) gNext
def g__law_number : G := gSeq (gSet 1 (fI 0))
  (gSeq (gIf (f2 eqD (fSl (fI 0) oN (oS (fC (.int 1)))) (fC (.str "-"))) (gSet 1 (fSl (fI 0) (oS (fC (.int 1))) oN)) gNext)
  (gSeq (gIf (fOr (f2 eqD (fI 1) (fC (.str ""))) (fOr (f2 gtD (fA lenD (aCons (fI 1) aNil)) (fC (.int 60))) (fOr (f2 eqD (fI 0) (fC (.str "-0"))) (fAnd (f2 eqD (f2 ixD (fI 1) (fC (.int 0))) (fC (.str "0"))) (f2 neD (fI 1) (fC (.str "0"))))))) (gRet (fC .non)) gNext)
  (gSeq (gFor (f1 signsD (fI 1)) (tN 2) b1__law_number)
  (gRet (fA intSD (aCons (fI 0) aNil))))))
def m__law_number : List D → R D := defD n__law_number.length [true] g__law_number
theorem u__law_number (a0 : D) : m__law_number [a0] = outD (g__law_number [.im a0, .no, .no]) := rfl
def g__law_words : G := gSeq (gSet 1 (fA strD (aCons (f2 subD (f2 modD (fI 0) (f2 mulD (fC (.int 2)) (f2 powD (fC (.int 10)) (fC (.int 40))))) (f2 powD (fC (.int 10)) (fC (.int 40)))) aNil)))
  (gSeq (gSet 2 (fLs (fA lstD (aCons (fC (.str "0")) (aCons (fC (.str "-")) (aCons (fC (.str "+")) (aCons (fC (.str " ")) (aCons (fC (.str "_")) (aCons (fC (.str ".")) (aCons (fC (.str "e")) (aCons (fC (.str "x")) (aCons (fC (.str "\n")) (aCons (fC (.str "7")) aNil)))))))))))))
  (gSeq (gSet 3 (f2 ixD (fI 2) (f2 modD (fI 0) (fA lenD (aCons (fI 2) aNil)))))
  (gSeq (gSet 4 (f2 modD (f2 fdivD (fI 0) (fC (.int 10))) (f2 addD (fA lenD (aCons (fI 1) aNil)) (fC (.int 1)))))
  (gSeq (gSet 5 (fLs (fA lstD (aCons (fC (.str "")) (aCons (fC (.str "-")) (aCons (fC (.str "-0")) (aCons (fC (.str "00")) (aCons (fC (.str "+1")) (aCons (fC (.str "1_0")) (aCons (fC (.str " 1")) (aCons (fC (.str "1 ")) (aCons (fC (.str "--1")) (aCons (fC (.str "-01")) (aCons (f2 addD (fC (.str "1")) (f2 mulSD (fC (.str "0")) (fC (.int 59)))) (aCons (f2 addD (fC (.str "1")) (f2 mulSD (fC (.str "0")) (fC (.int 60)))) (aCons (f2 addD (fC (.str "-1")) (f2 mulSD (fC (.str "0")) (fC (.int 59)))) aNil))))))))))))))))
  (gSeq (gSet 5 (fLs (f2 catD (fLs (fI 5)) (fLs (fA lstD (aCons (f2 addD (fC (.str "-1")) (f2 mulSD (fC (.str "0")) (fC (.int 60)))) (aCons (fC (.str "0")) (aCons (fC (.str "-7")) aNil))))))))
  (gRet (fLs (fA lstD (aCons (fI 1) (aCons (f2 addD (f2 addD (fSl (fI 1) oN (oS (fI 4))) (fI 3)) (fSl (fI 1) (oS (fI 4)) oN)) (aCons (f2 addD (fI 3) (fI 1)) (aCons (f2 addD (fI 1) (fI 3)) (aCons (f2 ixD (fI 5) (f2 modD (f2 fdivD (fI 0) (fC (.int 3))) (fA lenD (aCons (fI 5) aNil)))) (aCons (fA strD (aCons (f2 modD (fI 0) (fC (.int 7))) aNil)) aNil))))))))))))))
def m__law_words : List D → R D := defN n__law_words.length [true] g__law_words
theorem u__law_words (a0 : D) : m__law_words [a0] = outN (g__law_words [.im a0, .no, .no, .no, .no, .no]) := rfl
def y1_law : F := f2 addD (fC (.str " ")) (fA strD (aCons (fI 12) aNil))
def b1_law : G := gSeq (gSet 10 (fA m__law_number (aCons (fI 9) aNil)))
  (gSeq (gSet 11 (fA m_number_told (aCons (fI 9) aNil)))
  (gIf (fOr (fAnd (f2 isD (fI 10) (fC .non)) (f2 isnD (fI 11) (fC .non))) (fAnd (f2 isnD (fI 10) (fC .non)) (fOr (fNot (fA m__law_whole (aCons (fI 11) aNil))) (f2 neD (fI 11) (fI 10))))) (gRet (fC (.bl false))) gNext))
def b2_law : G := gFor (f1 seqD (fLs (fA m__law_words (aCons (fI 8) aNil)))) (tN 9) b1_law
def g_law : G := gSeq (gUnp (tT 2 (tsCons (tN 1) (tsCons (tN 2) tsNil))) (fA m__law_drawn (aCons (fI 0) aNil)))
  (gSeq (gSet 3 (f1 lfD (fA webD (aCons (fI 1) (aCons (fLs (fA listD (aCons (fI 2) aNil))) aNil)))))
  (gSeq (gSet 4 (fA m_web_text (aCons (fI 3) aNil)))
  (gSeq (gIf (fOr (fNot (f1 (isiS "str") (fI 4))) (f2 neD (fI 4) (fA m__law_text (aCons (fI 1) (aCons (fI 2) aNil))))) (gRet (fC (.bl false))) gNext)
  (gSeq (gSet 5 (fA m_read_web (aCons (fI 4) aNil)))
  (gSeq (gIf (fOr (fNot (fA m__law_is_web (aCons (fI 5) (aCons (fI 1) (aCons (fI 2) aNil))))) (f2 neD (fA m_web_text (aCons (fI 5) aNil)) (fI 4))) (gRet (fC (.bl false))) gNext)
  (gSeq (gSet 6 (fLs (fA m__law_amounts (aCons (fI 0) (aCons (fA lenD (aCons (fI 2) aNil)) (aCons (f2 modD (f2 fdivD (fA m__law_cell (aCons (fI 0) (aCons (fC (.int 0)) aNil))) (fC (.int 2460))) (fC (.int 2))) aNil))))))
  (gSeq (gSet 7 (fA m_flow_text (aCons (fLs (fA listD (aCons (fI 6) aNil))) aNil)))
  (gSeq (gIf (fOr (fNot (f1 (isiS "str") (fI 7))) (f2 neD (fI 7) (f2 joinD (f1 zsD (fC (.str ""))) (fLs (f2 catD (fLs (fA lstD (aCons (fC (.str "flow")) aNil))) (fLs (fLc (f1 seqD (fI 6)) (tN 12) (fC (.bl true)) y1_law [12]))))))) (gRet (fC (.bl false))) gNext)
  (gSeq (gFor (f1 seqD (fLs (f2 catD (fLs (fA lstD (aCons (fC (.int 0)) aNil))) (fLs (fSl (fI 0) oN (oS (fC (.int 40)))))))) (tN 8) b2_law)
  (gRet (fC (.bl true))))))))))))
def m_law : List D → R D := defD n_law.length [true] g_law
theorem u_law (a0 : D) : m_law [a0] = outD (g_law [.im a0, .no, .no, .no, .no, .no, .no, .no, .no, .no, .no, .no, .no]) := rfl
def fa : List He.Fa := [.free "len", .int "MOST_FIGURES" 60, .str "FIGURES" "0123456789", .free "int", .cls "Web", .noat "Web" "many", .free "str", .noat "Web" "ties", .glo "BadText", .free "range", .free "isinstance", .free "bool", .free "tuple", .glo "Web", .free "list", .int "MOST_TIES" 40, .int "MOST_PLACES" 20, .glo "TooMany", .exc "TooMany", .glo "BadWeb", .exc "BadWeb", .mkr "Web", .glo "number_told", .glo "numbers_told", .glo "web_text", .glo "row_told", .glo "read_web", .glo "flow_text", .glo "_law_cell", .glo "_law_ends", .glo "_law_drawn", .glo "_law_amounts", .glo "_law_whole", .glo "_law_is_web", .glo "_law_text", .glo "_law_number", .glo "_law_words", .glo "law"]
def fn : List He.DefD := [⟨("number_told", none), "number_told", "number_told", defArgs s_number_told, defBody s_number_told, defScope s_number_told, [], []⟩, ⟨("numbers_told", none), "numbers_told", "numbers_told", defArgs s_numbers_told, defBody s_numbers_told, defScope s_numbers_told, [], []⟩, ⟨("web_text", none), "web_text", "web_text", defArgs s_web_text, defBody s_web_text, defScope s_web_text, [], []⟩, ⟨("row_told", none), "row_told", "row_told", defArgs s_row_told, defBody s_row_told, defScope s_row_told, [], []⟩, ⟨("read_web", none), "read_web", "read_web", defArgs s_read_web, defBody s_read_web, defScope s_read_web, [], []⟩, ⟨("flow_text", none), "flow_text", "flow_text", defArgs s_flow_text, defBody s_flow_text, defScope s_flow_text, [], []⟩, ⟨("_law_cell", none), "_law_cell", "_law_cell", defArgs s__law_cell, defBody s__law_cell, defScope s__law_cell, [], []⟩, ⟨("_law_ends", none), "_law_ends", "_law_ends", defArgs s__law_ends, defBody s__law_ends, defScope s__law_ends, [], []⟩, ⟨("_law_drawn", none), "_law_drawn", "_law_drawn", defArgs s__law_drawn, defBody s__law_drawn, defScope s__law_drawn, [], []⟩, ⟨("_law_amounts", none), "_law_amounts", "_law_amounts", defArgs s__law_amounts, defBody s__law_amounts, defScope s__law_amounts, [], []⟩, ⟨("_law_whole", none), "_law_whole", "_law_whole", defArgs s__law_whole, defBody s__law_whole, defScope s__law_whole, [], []⟩, ⟨("_law_is_web", none), "_law_is_web", "_law_is_web", defArgs s__law_is_web, defBody s__law_is_web, defScope s__law_is_web, [], []⟩, ⟨("_law_text", none), "_law_text", "_law_text", defArgs s__law_text, defBody s__law_text, defScope s__law_text, [], []⟩, ⟨("_law_number", none), "_law_number", "_law_number", defArgs s__law_number, defBody s__law_number, defScope s__law_number, [], []⟩, ⟨("_law_words", none), "_law_words", "_law_words", defArgs s__law_words, defBody s__law_words, defScope s__law_words, [], []⟩, ⟨("law", none), "law", "law", defArgs s_law, defBody s_law, defScope s_law, [], []⟩, ⟨("Web", some "__init__"), "__init__", "Web.__init__", defArgs s_Web___init__, defBody s_Web___init__, defScope s_Web___init__, [], []⟩, ⟨("BadText", some "__init__"), "__init__", "BadText.__init__", defArgs s_BadText___init__, defBody s_BadText___init__, defScope s_BadText___init__, [], []⟩]
def ex : List (PySem.W.Frag → Bool) := [BW.tKit "Web" (BW.uOwn "Web") true, BW.tCl "Web", BW.tOx "BadText" "at"]
structure Tx (P : Program) (w : World) (K : PySem.W.Frag) (mg : Str → Option Value) (base : Heap) : Prop where
  c : BW.SaysB fa fn ex K
  gl : ∀ x : Str, (He.Fa.glo x).ok K = true → mg x = some (.ref (He.ga K x))
  fr : ∀ x : Str, (He.Fa.free x).ok K = true → mg x = none
  gi : ∀ (x : Str) (i : Int), (He.Fa.int x i).ok K = true → ∃ t, mg x = some (.int i t)
  gs : ∀ (x z : Str), (He.Fa.str x z).ok K = true → ∃ t, mg x = some (.str z t)
section
variable {P : Program} {w : World} {K : PySem.W.Frag} {mg : Str → Option Value} {base : Heap}
theorem Tx.fr_len (T : Tx P w K mg base) : mg "len" = none := T.fr _ (T.c.d.fact 0 rfl)
theorem Tx.gi_MOST_FIGURES (T : Tx P w K mg base) : ∃ t, mg "MOST_FIGURES" = some (.int 60 t) := T.gi _ _ (T.c.d.fact 1 rfl)
theorem Tx.gs_FIGURES (T : Tx P w K mg base) : ∃ t, mg "FIGURES" = some (.str "0123456789" t) := T.gs _ _ (T.c.d.fact 2 rfl)
theorem Tx.fr_int (T : Tx P w K mg base) : mg "int" = none := T.fr _ (T.c.d.fact 3 rfl)
theorem Tx.cl_Web (T : Tx P w K mg base) : Cls K (He.ga K "Web") := He.cls_ok (T.c.d.fact 4 rfl)
theorem Tx.na_many (T : Tx P w K mg base) : NoAttr K (He.ga K "Web") "many" := He.noat_ok (T.c.d.fact 5 rfl)
theorem Tx.fr_str (T : Tx P w K mg base) : mg "str" = none := T.fr _ (T.c.d.fact 6 rfl)
theorem Tx.na_ties (T : Tx P w K mg base) : NoAttr K (He.ga K "Web") "ties" := He.noat_ok (T.c.d.fact 7 rfl)
theorem Tx.gl_BadText (T : Tx P w K mg base) : mg "BadText" = some (.ref (He.ga K "BadText")) := T.gl _ (T.c.d.fact 8 rfl)
theorem Tx.fr_range (T : Tx P w K mg base) : mg "range" = none := T.fr _ (T.c.d.fact 9 rfl)
theorem Tx.fr_isinstance (T : Tx P w K mg base) : mg "isinstance" = none := T.fr _ (T.c.d.fact 10 rfl)
theorem Tx.fr_bool (T : Tx P w K mg base) : mg "bool" = none := T.fr _ (T.c.d.fact 11 rfl)
theorem Tx.fr_tuple (T : Tx P w K mg base) : mg "tuple" = none := T.fr _ (T.c.d.fact 12 rfl)
theorem Tx.gl_Web (T : Tx P w K mg base) : mg "Web" = some (.ref (He.ga K "Web")) := T.gl _ (T.c.d.fact 13 rfl)
theorem Tx.fr_list (T : Tx P w K mg base) : mg "list" = none := T.fr _ (T.c.d.fact 14 rfl)
theorem Tx.gi_MOST_TIES (T : Tx P w K mg base) : ∃ t, mg "MOST_TIES" = some (.int 40 t) := T.gi _ _ (T.c.d.fact 15 rfl)
theorem Tx.gi_MOST_PLACES (T : Tx P w K mg base) : ∃ t, mg "MOST_PLACES" = some (.int 20 t) := T.gi _ _ (T.c.d.fact 16 rfl)
theorem Tx.gl_TooMany (T : Tx P w K mg base) : mg "TooMany" = some (.ref (He.ga K "TooMany")) := T.gl _ (T.c.d.fact 17 rfl)
theorem Tx.ex_TooMany (T : Tx P w K mg base) : PySem.W.excIn K (He.ga K "TooMany") He.veBase "ValueError.__new__" = true ∧ PySem.W.keepIn K (.ref (He.ga K "TooMany")) = true ∧ PySem.W.subIn K (.ref (He.ga K "TooMany")) (.type "BaseException") = some true ∧ PySem.W.typeIn K (.ref (He.ga K "TooMany")) = some (.type "type") := He.exc_ok (T.c.d.fact 18 rfl)
theorem Tx.gl_BadWeb (T : Tx P w K mg base) : mg "BadWeb" = some (.ref (He.ga K "BadWeb")) := T.gl _ (T.c.d.fact 19 rfl)
theorem Tx.ex_BadWeb (T : Tx P w K mg base) : PySem.W.excIn K (He.ga K "BadWeb") He.veBase "ValueError.__new__" = true ∧ PySem.W.keepIn K (.ref (He.ga K "BadWeb")) = true ∧ PySem.W.subIn K (.ref (He.ga K "BadWeb")) (.type "BaseException") = some true ∧ PySem.W.typeIn K (.ref (He.ga K "BadWeb")) = some (.type "type") := He.exc_ok (T.c.d.fact 20 rfl)
theorem Tx.gl_number_told (T : Tx P w K mg base) : mg "number_told" = some (.ref (He.ga K "number_told")) := T.gl _ (T.c.d.fact 22 rfl)
theorem Tx.gl_numbers_told (T : Tx P w K mg base) : mg "numbers_told" = some (.ref (He.ga K "numbers_told")) := T.gl _ (T.c.d.fact 23 rfl)
theorem Tx.gl_web_text (T : Tx P w K mg base) : mg "web_text" = some (.ref (He.ga K "web_text")) := T.gl _ (T.c.d.fact 24 rfl)
theorem Tx.gl_row_told (T : Tx P w K mg base) : mg "row_told" = some (.ref (He.ga K "row_told")) := T.gl _ (T.c.d.fact 25 rfl)
theorem Tx.gl_read_web (T : Tx P w K mg base) : mg "read_web" = some (.ref (He.ga K "read_web")) := T.gl _ (T.c.d.fact 26 rfl)
theorem Tx.gl_flow_text (T : Tx P w K mg base) : mg "flow_text" = some (.ref (He.ga K "flow_text")) := T.gl _ (T.c.d.fact 27 rfl)
theorem Tx.gl__law_cell (T : Tx P w K mg base) : mg "_law_cell" = some (.ref (He.ga K "_law_cell")) := T.gl _ (T.c.d.fact 28 rfl)
theorem Tx.gl__law_ends (T : Tx P w K mg base) : mg "_law_ends" = some (.ref (He.ga K "_law_ends")) := T.gl _ (T.c.d.fact 29 rfl)
theorem Tx.gl__law_drawn (T : Tx P w K mg base) : mg "_law_drawn" = some (.ref (He.ga K "_law_drawn")) := T.gl _ (T.c.d.fact 30 rfl)
theorem Tx.gl__law_amounts (T : Tx P w K mg base) : mg "_law_amounts" = some (.ref (He.ga K "_law_amounts")) := T.gl _ (T.c.d.fact 31 rfl)
theorem Tx.gl__law_whole (T : Tx P w K mg base) : mg "_law_whole" = some (.ref (He.ga K "_law_whole")) := T.gl _ (T.c.d.fact 32 rfl)
theorem Tx.gl__law_is_web (T : Tx P w K mg base) : mg "_law_is_web" = some (.ref (He.ga K "_law_is_web")) := T.gl _ (T.c.d.fact 33 rfl)
theorem Tx.gl__law_text (T : Tx P w K mg base) : mg "_law_text" = some (.ref (He.ga K "_law_text")) := T.gl _ (T.c.d.fact 34 rfl)
theorem Tx.gl__law_number (T : Tx P w K mg base) : mg "_law_number" = some (.ref (He.ga K "_law_number")) := T.gl _ (T.c.d.fact 35 rfl)
theorem Tx.gl__law_words (T : Tx P w K mg base) : mg "_law_words" = some (.ref (He.ga K "_law_words")) := T.gl _ (T.c.d.fact 36 rfl)
theorem Tx.gl_law (T : Tx P w K mg base) : mg "law" = some (.ref (He.ga K "law")) := T.gl _ (T.c.d.fact 37 rfl)
theorem Tx.iso_Web (T : Tx P w K mg base) : BW.IsoT K (.ref (He.ga K "Web")) [(0, true)] := isoT_obj (c := 0) (tKit_ok (u := uOwn "Web") (T.c.ex 0)) T.cl_Web (tCl_ok (T.c.ex 1)) (isoT_nil)
theorem Tx.web (T : Tx P w K mg base) : BW.WebC P w K mg base 1 := by
  obtain ⟨fd, F0⟩ := T.c.d.def_ 16 rfl
  refine ⟨_, fd, He.mkr_ok (T.c.d.fact 21 rfl), BW.web_init (k := 0) F0 sc_Web___init__ rfl T.cl_Web T.na_many T.na_ties fun cdv A outer s H E hr tk hp => ⟨fun A0 H0 => ?_, fun A0 H0 => ?_, fun A0 H0 => ?_, fun A0 H0 => ?_⟩, T.gl_Web, F0.bindsN fun _ _ _ _ _ _ us hl => match us, hl with | [_, _, _], _ => rfl⟩
  · exact vs_if (vt_w (vw_or (vt_lt (vb_of_ve (ve_var 1)) (vb_of_ve (ve_int))) (vw_or (vt_gt (vb_of_ve (ve_var 1)) (vb_of_ve (ve_gi rfl T.gi_MOST_PLACES))) (vw_or1 (vt_gt (vb_of_ve (ve_blt call_len gc_len nea_len T.fr_len (by decide +kernel) (va_lo (vb_of_ve (ve_var 2)) (va_nil)))) (vb_of_ve (ve_gi rfl T.gi_MOST_TIES))))))) (vss_one (vs_raise (cc := 4) rfl tk T.ex_TooMany.1 T.gl_TooMany T.ex_TooMany.2.1 T.ex_TooMany.2.2.1 T.ex_TooMany.2.2.2)) (vss_nil)
  · exact vs_for hp rfl (vi_seq (ve_var 2)) (vg_name 3 sc_Web___init__.nd) (vss_one (vs_for hp rfl (vi_seq (ve_var 3)) (vg_name 4 sc_Web___init__.nd) (vss_one (vs_if (vt_w (vw_or (vt_lt (vb_of_ve (ve_var 4)) (vb_of_ve (ve_int))) (vw_or1 (vt_ge (vb_of_ve (ve_var 4)) (vb_of_ve (ve_var 1)))))) (vss_one (vs_raise (cc := 3) rfl tk T.ex_BadWeb.1 T.gl_BadWeb T.ex_BadWeb.2.1 T.ex_BadWeb.2.2.1 T.ex_BadWeb.2.2.2)) (vss_nil)))))
  · exact ps_fld (ve_var 0) (ve_var 1) rfl
  · exact ps_fld (ve_var 0) (ve_tupleC T.fr_tuple (vl_of_vf (vf_lc (own := [("ends", 3)]) rfl sc_Web___init__.nd (vi_seq (ve_var 2)) (blkOk_by (own := [("ends", 3)]) (N := n_Web___init__) (sc := defScope s_Web___init__) (by decide +kernel)) (fun _ _ _ _ _ => vg_name 3 sc_Web___init__.nd) (fun _ _ _ _ _ => vts_nil) (fun _ _ _ _ _ => ve_tup (va_st (ve_ix (ve_var 3) (ve_int)) (va_st (ve_ix (ve_var 3) (ve_int)) (va_nil))))))) rfl
theorem Tx.nf_BadText (T : Tx P w K mg base) : BW.NfC P w K mg base 12 := by
  obtain ⟨fd, F0⟩ := T.c.d.def_ 17 rfl
  obtain ⟨O, i0, i1, i2⟩ := BW.tOx_ok (x := "BadText") (f := "at") (T.c.ex 2)
  exact ⟨_, fd, ["self", "at"], O, i1, i2, T.gl_BadText, BW.exc_init (c := 12) F0 sc_BadText___init__ rfl O i0 fun cdv A outer s H E => ps_ost (pe_var (i := 0) rfl (.inl rfl)) (pe_var (i := 1) rfl (.inl rfl)), F0.bindsN fun _ _ _ _ _ _ us hl => match us, hl with | [_, _], _ => rfl⟩
theorem Tx.ok_number_told (T : Tx P w K mg base) : Cal P w K mg base "number_told" 1 [true] m_number_told := by
  obtain ⟨fd, F0⟩ := T.c.d.def_ 0 rfl
  exact ⟨_, fd, ["text"], fn_ok (k := 0) F0 sc_number_told rfl (by decide) fun cdv A outer s H I E hr tk hp => by
    exact vss_cons (vs_set 1 sc_number_told.nd (ve_var 0))
      (vss_cons (vs_if (vt_eq hr.units (vb_of_ve (ve_slice (ve_var 0) (vo_none) (vo_some (ve_int)))) (vb_of_ve (ve_str))) (vss_one (vs_set 1 sc_number_told.nd (ve_slice (ve_var 0) (vo_some (ve_int)) (vo_none)))) (vss_nil))
      (vss_cons (vs_if (vt_w (vw_or (vt_eq hr.units (vb_of_ve (ve_var 1)) (vb_of_ve (ve_str))) (vw_or (vt_gt (vb_of_ve (ve_blt call_len gc_len nea_len T.fr_len (by decide +kernel) (va_lo (vb_of_ve (ve_var 1)) (va_nil)))) (vb_of_ve (ve_gi rfl T.gi_MOST_FIGURES))) (vw_or1 (vt_eq hr.units (vb_of_ve (ve_var 0)) (vb_of_ve (ve_str))))))) (vss_one (vs_ret (ve_non))) (vss_nil))
      (vss_cons (vs_if (vt_w (vw_and (vt_eq hr.units (vb_of_ve (ve_ix (ve_var 1) (ve_int))) (vb_of_ve (ve_str))) (vw_and1 (vt_gt (vb_of_ve (ve_blt call_len gc_len nea_len T.fr_len (by decide +kernel) (va_lo (vb_of_ve (ve_var 1)) (va_nil)))) (vb_of_ve (ve_int)))))) (vss_one (vs_ret (ve_non))) (vss_nil))
      (vss_cons (vs_for hp rfl (vi_signs (ve_var 1)) (vg_name 2 sc_number_told.nd) (vss_one (vs_if (vt_nin (vb_of_ve (ve_var 2)) (vb_of_ve (ve_gs rfl T.gs_FIGURES))) (vss_one (vs_ret (ve_non))) (vss_nil))))
      (vss_one (vs_ret (ve_bty call_intS gc_intS nea_intS T.fr_int (by decide +kernel) (va_lo (vb_of_ve (ve_var 0)) (va_nil))))))))), T.gl_number_told, F0.kp, F0.bindsN fun _ _ _ _ _ _ us hl => match us, hl with | [_], _ => rfl⟩

theorem Tx.ok_numbers_told (T : Tx P w K mg base) : Cal P w K mg base "numbers_told" 2 [true] m_numbers_told := by
  obtain ⟨fd, F0⟩ := T.c.d.def_ 1 rfl
  exact ⟨_, fd, ["words"], fn_ok (k := 1) F0 sc_numbers_told rfl (by decide) fun cdv A outer s H I E hr tk hp => by
    exact vss_cons (vs_setLcI 1 (own := [("word", 2)]) rfl sc_numbers_told.nd (vi_seq (ve_var 0)) (blkOk_by (own := [("word", 2)]) (N := n_numbers_told) (sc := defScope s_numbers_told) (by decide +kernel)) (fun _ _ _ _ _ => vg_name 2 sc_numbers_told.nd) (fun _ _ _ _ _ => vts_nil) (fun _ _ _ _ _ => ve_cal T.ok_number_told hr takes0 (va_st (ve_var 2) (va_nil))))
      (vss_cons (vs_if (vt_in (vb_of_ve (ve_non)) (vb_of_ve (ve_var 1))) (vss_one (vs_ret (ve_non))) (vss_nil))
      (vss_one (vs_ret (ve_var 1)))), T.gl_numbers_told, F0.kp, F0.bindsN fun _ _ _ _ _ _ us hl => match us, hl with | [_], _ => rfl⟩

theorem Tx.ok_web_text (T : Tx P w K mg base) : Cal P w K mg base "web_text" 1 [true] m_web_text := by
  obtain ⟨fd, F0⟩ := T.c.d.def_ 2 rfl
  exact ⟨_, fd, ["web"], fn_ok (k := 0) F0 sc_web_text rfl (by decide) fun cdv A outer s H I E hr tk hp => by
    exact vss_cons (vs_setM 1 sc_web_text.nd (vf_lst (va_st (ve_add (ve_str) (ve_bty call_str_int gc_str nea_str T.fr_str (by decide +kernel) (va_lo (vb_of_ve (ve_at 0 T.cl_Web T.na_many (ve_var 0))) (va_nil)))) (va_nil))))
      (vss_cons (vs_for hp rfl (vi_seq (ve_at 0 T.cl_Web T.na_ties (ve_var 0))) (vg_name 2 sc_web_text.nd) (vss_one (vs_mut 1 PySem.F.slot_list_append PySem.F.type_list_append mt_append mo_app (ve_add (ve_add (ve_add (ve_str) (ve_bty call_str_int gc_str nea_str T.fr_str (by decide +kernel) (va_lo (vb_of_ve (ve_ix (ve_var 2) (ve_int))) (va_nil)))) (ve_str)) (ve_bty call_str_int gc_str nea_str T.fr_str (by decide +kernel) (va_lo (vb_of_ve (ve_ix (ve_var 2) (ve_int))) (va_nil)))))))
      (vss_one (vs_ret (ve_add (ve_join (ve_str) (vl_var 1)) (ve_str))))), T.gl_web_text, F0.kp, F0.bindsN fun _ _ _ _ _ _ us hl => match us, hl with | [_], _ => rfl⟩

theorem Tx.ok_row_told (T : Tx P w K mg base) : Cal P w K mg base "row_told" 3 [true, true, true, true] m_row_told := by
  obtain ⟨fd, F0⟩ := T.c.d.def_ 3 rfl
  exact ⟨_, fd, ["row", "word", "many", "at"], fn_ok (k := 2) F0 sc_row_told rfl (by decide) fun cdv A outer s H I E hr tk hp => by
    exact vss_cons (vs_set 4 sc_row_told.nd (ve_of_vf (vf_split (ve_var 0) (ve_str))))
      (vss_cons (vs_set 5 sc_row_told.nd (ve_cal T.ok_numbers_told hr tk (va_st (ve_slice (ve_var 4) (vo_some (ve_int)) (vo_none)) (va_nil))))
      (vss_cons (vs_if (vt_w (vw_or (vt_ne hr.units (vb_of_ve (ve_ix (ve_var 4) (ve_int))) (vb_of_ve (ve_var 1))) (vw_or (vt_ne hr.units (vb_of_ve (ve_blt call_len gc_len nea_len T.fr_len (by decide +kernel) (va_lo (vb_of_ve (ve_var 4)) (va_nil)))) (vb_of_ve (ve_add (ve_var 2) (ve_int)))) (vw_or1 (vt_is (vb_of_ve (ve_var 5)) (vb_of_ve (ve_non))))))) (vss_one (vs_raise1 (c := 12) rfl tk T.nf_BadText hr (ve_var 3) rfl)) (vss_nil))
      (vss_one (vs_ret (ve_var 5))))), T.gl_row_told, F0.kp, F0.bindsN fun _ _ _ _ _ _ us hl => match us, hl with | [_, _, _, _], _ => rfl⟩

theorem Tx.ok_read_web (T : Tx P w K mg base) : Cal P w K mg base "read_web" 4 [true] m_read_web := by
  obtain ⟨fd, F0⟩ := T.c.d.def_ 4 rfl
  exact ⟨_, fd, ["text"], fn_ok (k := 3) F0 sc_read_web rfl (by decide) fun cdv A outer s H I E hr tk hp => by
    exact vss_cons (vs_set 1 sc_read_web.nd (ve_of_vf (vf_split (ve_var 0) (ve_str))))
      (vss_cons (vs_if (vt_eq hr.units (vb_of_ve (ve_blt call_len gc_len nea_len T.fr_len (by decide +kernel) (va_lo (vb_of_ve (ve_var 1)) (va_nil)))) (vb_of_ve (ve_int))) (vss_one (vs_raise1 (c := 12) rfl tk T.nf_BadText hr (ve_int) rfl)) (vss_nil))
      (vss_cons (vs_set 2 sc_read_web.nd (ve_cal T.ok_row_told hr tk (va_st (ve_ix (ve_var 1) (ve_int)) (va_st (ve_str) (va_st (ve_int) (va_st (ve_int) (va_nil)))))))
      (vss_cons (vs_setM 3 sc_read_web.nd (vf_lst (va_nil)))
      (vss_cons (vs_for hp rfl (vi_range2 T.fr_range (va_lo (vb_of_ve (ve_int)) (va_lo (vb_of_ve (ve_sub (vb_of_ve (ve_blt call_len gc_len nea_len T.fr_len (by decide +kernel) (va_lo (vb_of_ve (ve_var 1)) (va_nil)))) (vb_of_ve (ve_int)))) (va_nil)))) (vg_name 4 sc_read_web.nd) (vss_cons (vs_set 5 sc_read_web.nd (ve_cal T.ok_row_told hr tk (va_st (ve_ix (ve_var 1) (ve_var 4)) (va_st (ve_str) (va_st (ve_int) (va_st (ve_add (ve_var 4) (ve_int)) (va_nil)))))))
      (vss_one (vs_mut 3 PySem.F.slot_list_append PySem.F.type_list_append mt_append mo_app (ve_tup (va_st (ve_ix (ve_var 5) (ve_int)) (va_st (ve_ix (ve_var 5) (ve_int)) (va_nil))))))))
      (vss_cons (vs_if (vt_ne hr.units (vb_of_ve (ve_ix (ve_var 1) (ve_neg (vb_of_ve (ve_int))))) (vb_of_ve (ve_str))) (vss_one (vs_raise1 (c := 12) rfl tk T.nf_BadText hr (ve_blt call_len gc_len nea_len T.fr_len (by decide +kernel) (va_lo (vb_of_ve (ve_var 1)) (va_nil))) rfl)) (vss_nil))
      (vss_one (vs_ret (ve_web T.web hr tk (val_st (ve_ix (ve_var 2) (ve_int)) (val_ln (vl_var 3) (val_nil))))))))))), T.gl_read_web, F0.kp, F0.bindsN fun _ _ _ _ _ _ us hl => match us, hl with | [_], _ => rfl⟩

theorem Tx.ok_flow_text (T : Tx P w K mg base) : Cal P w K mg base "flow_text" 1 [true] m_flow_text := by
  obtain ⟨fd, F0⟩ := T.c.d.def_ 5 rfl
  exact ⟨_, fd, ["flow"], fn_ok (k := 0) F0 sc_flow_text rfl (by decide) fun cdv A outer s H I E hr tk hp => by
    exact vss_one (vs_ret (ve_join (ve_str) (vl_of_vf (vf_cat (vl_of_vf (vf_lst (va_st (ve_str) (va_nil)))) (vl_of_vf (vf_lc (own := [("amount", 1)]) rfl sc_flow_text.nd (vi_seq (ve_var 0)) (blkOk_by (own := [("amount", 1)]) (N := n_flow_text) (sc := defScope s_flow_text) (by decide +kernel)) (fun _ _ _ _ _ => vg_name 1 sc_flow_text.nd) (fun _ _ _ _ _ => vts_nil) (fun _ _ _ _ _ => ve_bty call_str_int gc_str nea_str T.fr_str (by decide +kernel) (va_lo (vb_of_ve (ve_var 1)) (va_nil))))))))), T.gl_flow_text, F0.kp, F0.bindsN fun _ _ _ _ _ _ us hl => match us, hl with | [_], _ => rfl⟩

theorem Tx.ok__law_cell (T : Tx P w K mg base) : Cal P w K mg base "_law_cell" 1 [true, true] m__law_cell := by
  obtain ⟨fd, F0⟩ := T.c.d.def_ 6 rfl
  exact ⟨_, fd, ["_law_script", "_law_k"], fn_ok (k := 0) F0 sc__law_cell rfl (by decide) fun cdv A outer s H I E hr tk hp => by
    exact vss_cons (vs_if (vt_lt (vb_of_ve (ve_var 1)) (vb_of_ve (ve_blt call_len gc_len nea_len T.fr_len (by decide +kernel) (va_lo (vb_of_ve (ve_var 0)) (va_nil))))) (vss_one (vs_ret (ve_ix (ve_var 0) (ve_var 1)))) (vss_nil))
      (vss_one (vs_ret (ve_int))), T.gl__law_cell, F0.kp, F0.bindsN fun _ _ _ _ _ _ us hl => match us, hl with | [_, _], _ => rfl⟩

theorem Tx.ok__law_ends (T : Tx P w K mg base) : CalN P w K mg base "_law_ends" 2 [true, true, true, true] m__law_ends := by
  obtain ⟨fd, F0⟩ := T.c.d.def_ 7 rfl
  exact ⟨_, fd, ["_law_script", "_law_many", "_law_count", "_law_way"], fn_new (k := 1) F0 sc__law_ends rfl (by decide) fun cdv A outer s H I E hr tk hp => by
    exact vss_cons (vs_setM 4 sc__law_ends.nd (vf_lst (va_nil)))
      (vss_cons (vs_set 5 sc__law_ends.nd (ve_cal T.ok__law_cell hr tk (va_st (ve_var 0) (va_st (ve_int) (va_nil)))))
      (vss_cons (vs_if (vt_eq hr.units (vb_of_ve (ve_var 3)) (vb_of_ve (ve_int))) (vss_one (vs_set 5 sc__law_ends.nd (ve_mod (vb_of_ve (ve_var 5)) (vb_of_ve (ve_int))))) (vss_nil))
      (vss_cons (vs_for hp rfl (vi_range1 T.fr_range (va_lo (vb_of_ve (ve_var 2)) (va_nil))) (vg_name 6 sc__law_ends.nd) (vss_cons (vs_set 7 sc__law_ends.nd (ve_cal T.ok__law_cell hr tk (va_st (ve_var 0) (va_st (ve_add (ve_int) (ve_var 6)) (va_nil)))))
      (vss_cons (vs_if (vt_eq hr.units (vb_of_ve (ve_var 3)) (vb_of_ve (ve_int))) (vss_cons (vs_set 7 sc__law_ends.nd (ve_mod (vb_of_ve (ve_var 5)) (vb_of_ve (ve_mul (ve_var 1) (ve_var 1)))))
      (vss_one (vs_set 5 sc__law_ends.nd (ve_fdiv (vb_of_ve (ve_var 5)) (vb_of_ve (ve_mul (ve_var 1) (ve_var 1))))))) (vss_nil))
      (vss_cons (vs_if (vt_eq hr.units (vb_of_ve (ve_var 3)) (vb_of_ve (ve_int))) (vss_cons (vs_set 5 sc__law_ends.nd (ve_mod (vb_of_ve (ve_mul (ve_add (ve_add (ve_var 5) (ve_mul (ve_int) (ve_var 6))) (ve_int)) (ve_int))) (vb_of_ve (ve_int))))
      (vss_cons (vs_set 5 sc__law_ends.nd (ve_mod (vb_of_ve (ve_mul (ve_var 5) (ve_var 5))) (vb_of_ve (ve_int))))
      (vss_one (vs_set 7 sc__law_ends.nd (ve_fdiv (vb_of_ve (ve_var 5)) (vb_of_ve (ve_int))))))) (vss_nil))
      (vss_one (vs_mut 4 PySem.F.slot_list_append PySem.F.type_list_append mt_append mo_app (ve_tup (va_st (ve_mod (vb_of_ve (ve_var 7)) (vb_of_ve (ve_var 1))) (va_st (ve_mod (vb_of_ve (ve_fdiv (vb_of_ve (ve_var 7)) (vb_of_ve (ve_var 1)))) (vb_of_ve (ve_var 1))) (va_nil))))))))))
      (vss_one (vs_retM 4))))), T.gl__law_ends, F0.kp, F0.bindsN fun _ _ _ _ _ _ us hl => match us, hl with | [_, _, _, _], _ => rfl⟩

theorem Tx.ok__law_drawn (T : Tx P w K mg base) : Cal P w K mg base "_law_drawn" 3 [true] m__law_drawn := by
  obtain ⟨fd, F0⟩ := T.c.d.def_ 8 rfl
  exact ⟨_, fd, ["_law_script"], fn_ok (k := 2) F0 sc__law_drawn rfl (by decide) fun cdv A outer s H I E hr tk hp => by
    exact vss_cons (vs_set 1 sc__law_drawn.nd (ve_cal T.ok__law_cell hr tk (va_st (ve_var 0) (va_st (ve_int) (va_nil)))))
      (vss_cons (vs_if (vt_eq hr.units (vb_of_ve (ve_mod (vb_of_ve (ve_var 1)) (vb_of_ve (ve_int)))) (vb_of_ve (ve_int))) (vss_cons (vs_set 1 sc__law_drawn.nd (ve_mod (vb_of_ve (ve_add (ve_mul (ve_mod (vb_of_ve (ve_var 1)) (vb_of_ve (ve_int))) (ve_int)) (ve_int))) (vb_of_ve (ve_int))))
      (vss_one (vs_set 1 sc__law_drawn.nd (ve_mod (vb_of_ve (ve_mul (ve_var 1) (ve_var 1))) (vb_of_ve (ve_int)))))) (vss_nil))
      (vss_cons (vs_set 2 sc__law_drawn.nd (ve_add (ve_int) (ve_mod (vb_of_ve (ve_var 1)) (vb_of_ve (ve_int)))))
      (vss_one (vs_ret (ve_tup (va_st (ve_var 2) (va_st (ve_of_vf (vf_cal T.ok__law_ends hr tk (va_st (ve_var 0) (va_st (ve_var 2) (va_st (ve_mod (vb_of_ve (ve_fdiv (vb_of_ve (ve_var 1)) (vb_of_ve (ve_int)))) (vb_of_ve (ve_int))) (va_st (ve_mod (vb_of_ve (ve_fdiv (vb_of_ve (ve_var 1)) (vb_of_ve (ve_int)))) (vb_of_ve (ve_int))) (va_nil))))))) (va_nil)))))))), T.gl__law_drawn, F0.kp, F0.bindsN fun _ _ _ _ _ _ us hl => match us, hl with | [_], _ => rfl⟩

theorem Tx.ok__law_amounts (T : Tx P w K mg base) : CalN P w K mg base "_law_amounts" 2 [true, true, true] m__law_amounts := by
  obtain ⟨fd, F0⟩ := T.c.d.def_ 9 rfl
  exact ⟨_, fd, ["_law_script", "_law_count", "_law_way"], fn_new (k := 1) F0 sc__law_amounts rfl (by decide) fun cdv A outer s H I E hr tk hp => by
    exact vss_cons (vs_setM 3 sc__law_amounts.nd (vf_lst (va_nil)))
      (vss_cons (vs_set 4 sc__law_amounts.nd (ve_cal T.ok__law_cell hr tk (va_st (ve_var 0) (va_st (ve_int) (va_nil)))))
      (vss_cons (vs_for hp rfl (vi_range1 T.fr_range (va_lo (vb_of_ve (ve_var 1)) (va_nil))) (vg_name 5 sc__law_amounts.nd) (vss_cons (vs_set 6 sc__law_amounts.nd (ve_cal T.ok__law_cell hr tk (va_st (ve_var 0) (va_st (ve_add (ve_int) (ve_var 5)) (va_nil)))))
      (vss_cons (vs_if (vt_eq hr.units (vb_of_ve (ve_var 2)) (vb_of_ve (ve_int))) (vss_cons (vs_set 6 sc__law_amounts.nd (ve_mod (vb_of_ve (ve_var 4)) (vb_of_ve (ve_int))))
      (vss_one (vs_set 4 sc__law_amounts.nd (ve_fdiv (vb_of_ve (ve_var 4)) (vb_of_ve (ve_int)))))) (vss_nil))
      (vss_cons (vs_set 7 sc__law_amounts.nd (ve_mod (vb_of_ve (ve_fdiv (vb_of_ve (ve_var 6)) (vb_of_ve (ve_int)))) (vb_of_ve (ve_pow (vb_of_ve (ve_int)) (vb_of_ve (ve_int))))))
      (vss_cons (vs_if (vt_eq hr.units (vb_of_ve (ve_mod (vb_of_ve (ve_var 6)) (vb_of_ve (ve_int)))) (vb_of_ve (ve_int))) (vss_one (vs_set 7 sc__law_amounts.nd (ve_neg (vb_of_ve (ve_var 7))))) (vss_nil))
      (vss_cons (vs_if (vt_eq hr.units (vb_of_ve (ve_mod (vb_of_ve (ve_var 6)) (vb_of_ve (ve_int)))) (vb_of_ve (ve_int))) (vss_one (vs_set 7 sc__law_amounts.nd (ve_sub (vb_of_ve (ve_mod (vb_of_ve (ve_var 7)) (vb_of_ve (ve_int)))) (vb_of_ve (ve_int))))) (vss_nil))
      (vss_one (vs_mut 3 PySem.F.slot_list_append PySem.F.type_list_append mt_append mo_app (ve_var 7)))))))))
      (vss_one (vs_retM 3)))), T.gl__law_amounts, F0.kp, F0.bindsN fun _ _ _ _ _ _ us hl => match us, hl with | [_, _, _], _ => rfl⟩

theorem Tx.ok__law_whole (T : Tx P w K mg base) : Cal P w K mg base "_law_whole" 1 [true] m__law_whole := by
  obtain ⟨fd, F0⟩ := T.c.d.def_ 10 rfl
  exact ⟨_, fd, ["_law_found"], fn_ok (k := 0) F0 sc__law_whole rfl (by decide) fun cdv A outer s H I E hr tk hp => by
    exact vss_one (vs_ret (ve_and (vb_of_ve (ve_isi "int" T.fr_isinstance T.fr_int (by decide +kernel) (vb_of_ve (ve_var 0)) (by decide))) (vb_of_ve (ve_one (ve_not (vb_of_ve (ve_isi "bool" T.fr_isinstance T.fr_bool (by decide +kernel) (vb_of_ve (ve_var 0)) (by decide)))))))), T.gl__law_whole, F0.kp, F0.bindsN fun _ _ _ _ _ _ us hl => match us, hl with | [_], _ => rfl⟩

theorem Tx.ok__law_is_web (T : Tx P w K mg base) : Cal P w K mg base "_law_is_web" 2 [true, true, true] m__law_is_web := by
  obtain ⟨fd, F0⟩ := T.c.d.def_ 11 rfl
  exact ⟨_, fd, ["_law_web", "_law_many", "_law_ends_here"], fn_ok (k := 1) F0 sc__law_is_web rfl (by decide) fun cdv A outer s H I E hr tk hp => by
    exact vss_cons (vs_if (vt_w (vw_or (vt_not (vt_val (vb_of_ve (ve_iso "Web" T.iso_Web T.fr_isinstance T.gl_Web (ve_var 0))))) (vw_or (vt_not (vt_val (vb_of_ve (ve_cal T.ok__law_whole hr tk (va_st (ve_at 0 T.cl_Web T.na_many (ve_var 0)) (va_nil)))))) (vw_or (vt_ne hr.units (vb_of_ve (ve_at 0 T.cl_Web T.na_many (ve_var 0))) (vb_of_ve (ve_var 1))) (vw_or1 (vt_not (vt_val (vb_of_ve (ve_isi "tuple" T.fr_isinstance T.fr_tuple (by decide +kernel) (vb_of_ve (ve_at 0 T.cl_Web T.na_ties (ve_var 0))) (by decide)))))))))) (vss_one (vs_ret (ve_bl))) (vss_nil))
      (vss_cons (vs_if (vt_ne hr.units (vb_of_ve (ve_of_vf (vf_bty call_list_of gcf_list nea_list T.fr_list (by decide +kernel) (va_st (ve_at 0 T.cl_Web T.na_ties (ve_var 0)) (va_nil))))) (vb_of_ve (ve_var 2))) (vss_one (vs_ret (ve_bl))) (vss_nil))
      (vss_cons (vs_for hp rfl (vi_seq (ve_at 0 T.cl_Web T.na_ties (ve_var 0))) (vg_name 3 sc__law_is_web.nd) (vss_one (vs_if (vt_w (vw_or (vt_not (vt_val (vb_of_ve (ve_isi "tuple" T.fr_isinstance T.fr_tuple (by decide +kernel) (vb_of_ve (ve_var 3)) (by decide))))) (vw_or (vt_not (vt_val (vb_of_ve (ve_cal T.ok__law_whole hr tk (va_st (ve_ix (ve_var 3) (ve_int)) (va_nil)))))) (vw_or1 (vt_not (vt_val (vb_of_ve (ve_cal T.ok__law_whole hr tk (va_st (ve_ix (ve_var 3) (ve_int)) (va_nil)))))))))) (vss_one (vs_ret (ve_bl))) (vss_nil))))
      (vss_one (vs_ret (ve_bl))))), T.gl__law_is_web, F0.kp, F0.bindsN fun _ _ _ _ _ _ us hl => match us, hl with | [_, _, _], _ => rfl⟩

theorem Tx.ok__law_text (T : Tx P w K mg base) : Cal P w K mg base "_law_text" 1 [true, true] m__law_text := by
  obtain ⟨fd, F0⟩ := T.c.d.def_ 12 rfl
  exact ⟨_, fd, ["_law_many", "_law_ends_here"], fn_ok (k := 0) F0 sc__law_text rfl (by decide) fun cdv A outer s H I E hr tk hp => by
    exact vss_cons (vs_set 2 sc__law_text.nd (ve_of_vf (vf_lst (va_st (ve_add (ve_add (ve_str) (ve_bty call_str_int gc_str nea_str T.fr_str (by decide +kernel) (va_lo (vb_of_ve (ve_var 0)) (va_nil)))) (ve_str)) (va_nil)))))
      (vss_one (vs_ret (ve_join (ve_str) (vl_of_vf (vf_cat (vl_of_ve (ve_var 2)) (vl_of_vf (vf_lc (own := [("_law_one", 3), ("_law_two", 4)]) rfl sc__law_text.nd (vi_seq (ve_var 1)) (blkOk_by (own := [("_law_one", 3), ("_law_two", 4)]) (N := n__law_text) (sc := defScope s__law_text) (by decide +kernel)) (fun _ _ _ _ _ => vg_tup rfl (vgs_cons (vg_name 3 sc__law_text.nd) (vgs_cons (vg_name 4 sc__law_text.nd) (vgs_nil)))) (fun _ _ _ _ _ => vts_nil) (fun _ _ _ _ _ => ve_add (ve_add (ve_add (ve_add (ve_str) (ve_bty call_str_int gc_str nea_str T.fr_str (by decide +kernel) (va_lo (vb_of_ve (ve_var 3)) (va_nil)))) (ve_str)) (ve_bty call_str_int gc_str nea_str T.fr_str (by decide +kernel) (va_lo (vb_of_ve (ve_var 4)) (va_nil)))) (ve_str))))))))), T.gl__law_text, F0.kp, F0.bindsN fun _ _ _ _ _ _ us hl => match us, hl with | [_, _], _ => rfl⟩

theorem Tx.ok__law_number (T : Tx P w K mg base) : Cal P w K mg base "_law_number" 1 [true] m__law_number := by
  obtain ⟨fd, F0⟩ := T.c.d.def_ 13 rfl
  exact ⟨_, fd, ["_law_word"], fn_ok (k := 0) F0 sc__law_number rfl (by decide) fun cdv A outer s H I E hr tk hp => by
    exact vss_cons (vs_set 1 sc__law_number.nd (ve_var 0))
      (vss_cons (vs_if (vt_eq hr.units (vb_of_ve (ve_slice (ve_var 0) (vo_none) (vo_some (ve_int)))) (vb_of_ve (ve_str))) (vss_one (vs_set 1 sc__law_number.nd (ve_slice (ve_var 0) (vo_some (ve_int)) (vo_none)))) (vss_nil))
      (vss_cons (vs_if (vt_w (vw_or (vt_eq hr.units (vb_of_ve (ve_var 1)) (vb_of_ve (ve_str))) (vw_or (vt_gt (vb_of_ve (ve_blt call_len gc_len nea_len T.fr_len (by decide +kernel) (va_lo (vb_of_ve (ve_var 1)) (va_nil)))) (vb_of_ve (ve_int))) (vw_or (vt_eq hr.units (vb_of_ve (ve_var 0)) (vb_of_ve (ve_str))) (vw_or1 (vt_w (vw_and (vt_eq hr.units (vb_of_ve (ve_ix (ve_var 1) (ve_int))) (vb_of_ve (ve_str))) (vw_and1 (vt_ne hr.units (vb_of_ve (ve_var 1)) (vb_of_ve (ve_str))))))))))) (vss_one (vs_ret (ve_non))) (vss_nil))
      (vss_cons (vs_for hp rfl (vi_signs (ve_var 1)) (vg_name 2 sc__law_number.nd) (vss_one (vs_if (vt_nin (vb_of_ve (ve_var 2)) (vb_of_ve (ve_str))) (vss_one (vs_ret (ve_non))) (vss_nil))))
      (vss_one (vs_ret (ve_bty call_intS gc_intS nea_intS T.fr_int (by decide +kernel) (va_lo (vb_of_ve (ve_var 0)) (va_nil)))))))), T.gl__law_number, F0.kp, F0.bindsN fun _ _ _ _ _ _ us hl => match us, hl with | [_], _ => rfl⟩

theorem Tx.ok__law_words (T : Tx P w K mg base) : CalN P w K mg base "_law_words" 1 [true] m__law_words := by
  obtain ⟨fd, F0⟩ := T.c.d.def_ 14 rfl
  exact ⟨_, fd, ["_law_cell_here"], fn_new (k := 0) F0 sc__law_words rfl (by decide) fun cdv A outer s H I E hr tk hp => by
    exact vss_cons (vs_set 1 sc__law_words.nd (ve_bty call_str_int gc_str nea_str T.fr_str (by decide +kernel) (va_lo (vb_of_ve (ve_sub (vb_of_ve (ve_mod (vb_of_ve (ve_var 0)) (vb_of_ve (ve_mul (ve_int) (ve_pow (vb_of_ve (ve_int)) (vb_of_ve (ve_int))))))) (vb_of_ve (ve_pow (vb_of_ve (ve_int)) (vb_of_ve (ve_int)))))) (va_nil))))
      (vss_cons (vs_set 2 sc__law_words.nd (ve_of_vf (vf_lst (va_st (ve_str) (va_st (ve_str) (va_st (ve_str) (va_st (ve_str) (va_st (ve_str) (va_st (ve_str) (va_st (ve_str) (va_st (ve_str) (va_st (ve_str) (va_st (ve_str) (va_nil))))))))))))))
      (vss_cons (vs_set 3 sc__law_words.nd (ve_ix (ve_var 2) (ve_mod (vb_of_ve (ve_var 0)) (vb_of_ve (ve_blt call_len gc_len nea_len T.fr_len (by decide +kernel) (va_lo (vb_of_ve (ve_var 2)) (va_nil)))))))
      (vss_cons (vs_set 4 sc__law_words.nd (ve_mod (vb_of_ve (ve_fdiv (vb_of_ve (ve_var 0)) (vb_of_ve (ve_int)))) (vb_of_ve (ve_add (ve_blt call_len gc_len nea_len T.fr_len (by decide +kernel) (va_lo (vb_of_ve (ve_var 1)) (va_nil))) (ve_int)))))
      (vss_cons (vs_set 5 sc__law_words.nd (ve_of_vf (vf_lst (va_st (ve_str) (va_st (ve_str) (va_st (ve_str) (va_st (ve_str) (va_st (ve_str) (va_st (ve_str) (va_st (ve_str) (va_st (ve_str) (va_st (ve_str) (va_st (ve_str) (va_st (ve_add (ve_str) (ve_mulS (vb_of_ve (ve_str)) (vb_of_ve (ve_int)))) (va_st (ve_add (ve_str) (ve_mulS (vb_of_ve (ve_str)) (vb_of_ve (ve_int)))) (va_st (ve_add (ve_str) (ve_mulS (vb_of_ve (ve_str)) (vb_of_ve (ve_int)))) (va_nil)))))))))))))))))
      (vss_cons (vs_set 5 sc__law_words.nd (ve_of_vf (vf_cat (vl_of_ve (ve_var 5)) (vl_of_vf (vf_lst (va_st (ve_add (ve_str) (ve_mulS (vb_of_ve (ve_str)) (vb_of_ve (ve_int)))) (va_st (ve_str) (va_st (ve_str) (va_nil)))))))))
      (vss_one (vs_retF (vf_lst (va_st (ve_var 1) (va_st (ve_add (ve_add (ve_slice (ve_var 1) (vo_none) (vo_some (ve_var 4))) (ve_var 3)) (ve_slice (ve_var 1) (vo_some (ve_var 4)) (vo_none))) (va_st (ve_add (ve_var 3) (ve_var 1)) (va_st (ve_add (ve_var 1) (ve_var 3)) (va_st (ve_ix (ve_var 5) (ve_mod (vb_of_ve (ve_fdiv (vb_of_ve (ve_var 0)) (vb_of_ve (ve_int)))) (vb_of_ve (ve_blt call_len gc_len nea_len T.fr_len (by decide +kernel) (va_lo (vb_of_ve (ve_var 5)) (va_nil)))))) (va_st (ve_bty call_str_int gc_str nea_str T.fr_str (by decide +kernel) (va_lo (vb_of_ve (ve_mod (vb_of_ve (ve_var 0)) (vb_of_ve (ve_int)))) (va_nil))) (va_nil))))))))))))))), T.gl__law_words, F0.kp, F0.bindsN fun _ _ _ _ _ _ us hl => match us, hl with | [_], _ => rfl⟩

theorem ok_law (c : BW.SaysB fa fn ex K) (T : ∀ base : Heap, K.In base → base.Ns mainGlobals mg → Tx P w K mg base) : BW.LawC P w K mg 5 m_law := by
  obtain ⟨fd, F0⟩ := c.d.def_ 15 rfl
  exact ⟨fd, fun s us hu => F0.bindsA (fun _ _ _ _ _ _ us hl => match us, hl with | [_], _ => rfl) s us hu, fun base h1 h2 => by
    have T := T base h1 h2
    exact fn_ok (k := 4) F0 sc_law rfl (by decide) fun cdv A outer s H I E hr tk hp => by
      exact vss_cons (vs_unp (ve_cal T.ok__law_drawn hr tk (va_st (ve_var 0) (va_nil))) (vg_tup rfl (vgs_cons (vg_name 1 sc_law.nd) (vgs_cons (vg_name 2 sc_law.nd) (vgs_nil)))))
            (vss_cons (vs_set 3 sc_law.nd (ve_web T.web hr tk (val_st (ve_var 1) (val_st (ve_of_vf (vf_bty call_list_of gcf_list nea_list T.fr_list (by decide +kernel) (va_st (ve_var 2) (va_nil)))) (val_nil)))))
            (vss_cons (vs_set 4 sc_law.nd (ve_cal T.ok_web_text hr tk (va_st (ve_var 3) (va_nil))))
            (vss_cons (vs_if (vt_w (vw_or (vt_not (vt_val (vb_of_ve (ve_isi "str" T.fr_isinstance T.fr_str (by decide +kernel) (vb_of_ve (ve_var 4)) (by decide))))) (vw_or1 (vt_ne hr.units (vb_of_ve (ve_var 4)) (vb_of_ve (ve_cal T.ok__law_text hr tk (va_st (ve_var 1) (va_st (ve_var 2) (va_nil))))))))) (vss_one (vs_ret (ve_bl))) (vss_nil))
            (vss_cons (vs_set 5 sc_law.nd (ve_cal T.ok_read_web hr tk (va_st (ve_var 4) (va_nil))))
            (vss_cons (vs_if (vt_w (vw_or (vt_not (vt_val (vb_of_ve (ve_cal T.ok__law_is_web hr tk (va_st (ve_var 5) (va_st (ve_var 1) (va_st (ve_var 2) (va_nil)))))))) (vw_or1 (vt_ne hr.units (vb_of_ve (ve_cal T.ok_web_text hr tk (va_st (ve_var 5) (va_nil)))) (vb_of_ve (ve_var 4)))))) (vss_one (vs_ret (ve_bl))) (vss_nil))
            (vss_cons (vs_set 6 sc_law.nd (ve_of_vf (vf_cal T.ok__law_amounts hr tk (va_st (ve_var 0) (va_st (ve_blt call_len gc_len nea_len T.fr_len (by decide +kernel) (va_lo (vb_of_ve (ve_var 2)) (va_nil))) (va_st (ve_mod (vb_of_ve (ve_fdiv (vb_of_ve (ve_cal T.ok__law_cell hr tk (va_st (ve_var 0) (va_st (ve_int) (va_nil))))) (vb_of_ve (ve_int)))) (vb_of_ve (ve_int))) (va_nil)))))))
            (vss_cons (vs_set 7 sc_law.nd (ve_cal T.ok_flow_text hr tk (va_st (ve_of_vf (vf_bty call_list_of gcf_list nea_list T.fr_list (by decide +kernel) (va_st (ve_var 6) (va_nil)))) (va_nil))))
            (vss_cons (vs_if (vt_w (vw_or (vt_not (vt_val (vb_of_ve (ve_isi "str" T.fr_isinstance T.fr_str (by decide +kernel) (vb_of_ve (ve_var 7)) (by decide))))) (vw_or1 (vt_ne hr.units (vb_of_ve (ve_var 7)) (vb_of_ve (ve_join (ve_str) (vl_of_vf (vf_cat (vl_of_vf (vf_lst (va_st (ve_str) (va_nil)))) (vl_of_vf (vf_lc (own := [("_law_amount", 12)]) rfl sc_law.nd (vi_seq (ve_var 6)) (blkOk_by (own := [("_law_amount", 12)]) (N := n_law) (sc := defScope s_law) (by decide +kernel)) (fun _ _ _ _ _ => vg_name 12 sc_law.nd) (fun _ _ _ _ _ => vts_nil) (fun _ _ _ _ _ => ve_add (ve_str) (ve_bty call_str_int gc_str nea_str T.fr_str (by decide +kernel) (va_lo (vb_of_ve (ve_var 12)) (va_nil)))))))))))))) (vss_one (vs_ret (ve_bl))) (vss_nil))
            (vss_cons (vs_for hp rfl (vi_seq (ve_of_vf (vf_cat (vl_of_vf (vf_lst (va_st (ve_int) (va_nil)))) (vl_of_ve (ve_slice (ve_var 0) (vo_none) (vo_some (ve_int))))))) (vg_name 8 sc_law.nd) (vss_one (vs_for hp rfl (vi_seq (ve_of_vf (vf_cal T.ok__law_words hr tk (va_st (ve_var 8) (va_nil))))) (vg_name 9 sc_law.nd) (vss_cons (vs_set 10 sc_law.nd (ve_cal T.ok__law_number hr tk (va_st (ve_var 9) (va_nil))))
            (vss_cons (vs_set 11 sc_law.nd (ve_cal T.ok_number_told hr tk (va_st (ve_var 9) (va_nil))))
            (vss_one (vs_if (vt_w (vw_or (vt_w (vw_and (vt_is (vb_of_ve (ve_var 10)) (vb_of_ve (ve_non))) (vw_and1 (vt_isn (vb_of_ve (ve_var 11)) (vb_of_ve (ve_non)))))) (vw_or1 (vt_w (vw_and (vt_isn (vb_of_ve (ve_var 10)) (vb_of_ve (ve_non))) (vw_and1 (vt_w (vw_or (vt_not (vt_val (vb_of_ve (ve_cal T.ok__law_whole hr tk (va_st (ve_var 11) (va_nil)))))) (vw_or1 (vt_ne hr.units (vb_of_ve (ve_var 11)) (vb_of_ve (ve_var 10)))))))))))) (vss_one (vs_ret (ve_bl))) (vss_nil))))))))
            (vss_one (vs_ret (ve_bl))))))))))))⟩
end
abbrev Rw : PySem.W.OpenRow := PySem.W.OpenLaw.row PySem.Challenge.rw_busyweb_k69_webs_as_texts
abbrev hk : PySem.W.Hook := BW.hookB 4 fa fn ex
def ob (s : PySem.W.SharedT) : He.AlD × Bool := BW.obsB 4 fa fn ex (HandSHeadRun.getT s)
theorem ob_eq (s : PySem.W.SharedT) : ob s = hk.obs s.abs := BW.obsB_eq (HandSHeadRun.getT_eq s)
def names : List PySem.Str := ["FlowError", "BadWeb", "TooMany", "BadText", "MOST_PLACES", "MOST_TIES", "Web", "FIGURES", "MOST_FIGURES", "number_told", "numbers_told", "web_text", "row_told", "read_web", "flow_text", "_law_cell", "_law_ends", "_law_drawn", "_law_amounts", "_law_whole", "_law_is_web", "_law_text", "_law_number", "_law_words"]
theorem run (w : World) : HandSHeadRun.RunEq Rw (PySem.W.view Rw.prog [28]) hk ob 20400 names w := by
  intro os
  kernel_rfl
end BW.Wk
namespace BW.Wk
open PySem PySem.Spec PyProof.Rows L2
open Evl (Ex Ex.refl Ex.trans Ex.new ex_rd ex_l ex_t)
def tb1_number_told  (a : Str) (g : Unit) : TR Unit Unit (Option Int) := TR.sq (cond (!(inZ a ("0123456789" : Str)))
  (.rt none)
  (.nx ())) fun g10 =>
  .nx ()
theorem hb1_number_told {c0 c1 : Option Sl}  (a : Str) (g : Unit) : Sim [c0, c1, some (.im (eZ a))] b1_number_told (tb1_number_told a g) (fun g : Unit => [c0, c1, none]) (fun g : Unit => [c0, c1, none]) keT (eO eI) := by
  unfold b1_number_told tb1_number_told
  exact sim_last (sim_seq (out1 := (fun g10 : Unit => [c0, c1, some (.im (eZ a))])) (sim_if (ev2pp (ev_I eZ a) (ev_C eZ ("0123456789" : Str)) (rf_nin rf_inZ)) (sim_ret (ev_cop (e := (eO eI)) (y := none) (ev_C eN ()))) (sim_next (x := ()) [true, true, true] rfl)) (fun g10 => sim_next (x := ()) [true, true, false] rfl))
def t_number_told (p_text : Str) : R (Option Int) := TR.out (Γ := Unit) (TR.sq (TR.ob ((slZ p_text none (some (1 : Int))).bind fun v1 => eqZ v1 ("-" : Str)) fun k15 => cond k15
  (TR.ob (slZ p_text (some (1 : Int)) none) fun x3 =>
  .nx x3)
  (.nx p_text)) fun g2 =>
  TR.ob ((eqZ g2 ("" : Str)).bind fun k6 => cond k6 (.ok true) (((lenZ g2).bind fun v4 => .ok (decide ((60 : Int) < v4))).bind fun k5 => cond k5 (.ok true) (eqZ p_text ("-0" : Str)))) fun k14 => cond k14
  (TR.up (.rt none))
  (TR.ob (((ixZ g2 (0 : Int)).bind fun v7 => eqZ v7 ("0" : Str)).bind fun k9 => cond k9 ((lenZ g2).bind fun v8 => .ok (decide ((1 : Int) < v8))) (.ok false)) fun k13 => cond k13
  (TR.up (.rt none))
  (TR.sq (forT (tb1_number_told) (signsT g2) ()) fun g11 =>
  TR.ob ((intZ p_text).map fun x => some x) .rt))) .no
theorem h_number_told (p_text : Str) : RefR (m_number_told [eZ p_text]) (t_number_told p_text) (eO eI) := by
  unfold t_number_told
  refine ref_def (n := n_number_told.length) (fl := [true]) (g := g_number_told) (out := fun _ => [none, none, none]) (c := [some (.im (eZ p_text)), none, none]) rfl (.som (.non (.non .nil))) ?_ (.inr rfl)
  unfold g_number_told
  exact sim_set (ev_I eZ p_text) (sim_seq (out1 := (fun g2 : Str => [some (.im (eZ p_text)), some (.im (eZ g2)), none])) (sim_ifb (kpT) (ev2bp (ev_slp (ev_I eZ p_text) (evo_N) (evo_S (ev_C eI (1 : Int))) rf_slZ) (ev_C eZ ("-" : Str)) (fun v1 => rf_eqZ)) (sim_last (sim_setb (kpT) (ev_slp (ev_I eZ p_text) (evo_S (ev_C eI (1 : Int))) (evo_N) rf_slZ) (fun x3 => sim_next (x := x3) [true, true, false] rfl))) (sim_next (x := p_text) [true, true, false] rfl)) (fun g2 => sim_guardb (kpT) (out1 := fun x => nomatch x) (ev_orb (ev2pp (ev_I eZ g2) (ev_C eZ ("" : Str)) (rf_eqZ)) (ev_orb (ev2bp (ev_A (eva_p (ev_I eZ g2) (eva_nil (rf_lenZ)))) (ev_C eI (60 : Int)) (fun v4 => rf_gt)) (ev2pp (ev_I eZ p_text) (ev_C eZ ("-0" : Str)) (rf_eqZ)))) (sim_ret (ev_cop (e := (eO eI)) (y := none) (ev_C eN ()))) (sim_guardb (kpT) (out1 := fun x => nomatch x) (ev_andb (ev2bp (ev2pp (ev_I eZ g2) (ev_C eI (0 : Int)) (rf_ixZ)) (ev_C eZ ("0" : Str)) (fun v7 => rf_eqZ)) (ev2bp (ev_A (eva_p (ev_I eZ g2) (eva_nil (rf_lenZ)))) (ev_C eI (1 : Int)) (fun v8 => rf_gt))) (sim_ret (ev_cop (e := (eO eI)) (y := none) (ev_C eN ()))) (sim_seq (sim_for (e1 := eZ) (tb1_number_told) (fun g11 : Unit => [some (.im (eZ p_text)), some (.im (eZ g2)), none]) [true, true, false] (ev1p (ev_I eZ g2) (rf_signs)) (fun a12 g11 => ⟨_, evt_N, hb1_number_told a12 g11⟩) rfl) (fun g11 => sim_retb (kpT) (ev_co (e := (eO eI)) (fun x => some x) (ev_A (eva_p (ev_I eZ p_text) (eva_nil (rf_intS))))))))))
def ty1_numbers_told  (a : Str) : R (Option Int) := t_number_told a
theorem hy1_numbers_told  (a : Str) : EvE [none, none, some (.im (eZ a))] y1_numbers_told (ty1_numbers_told a) (eO eI) := by
  unfold y1_numbers_told ty1_numbers_told
  exact ev_A (eva_p (ev_I eZ a) (eva_nil (h_number_told a)))
def t_numbers_told (p_words : List Str) : R (Option (List Int)) := TR.out (Γ := Unit) (TR.ob (fLcT (fun _ => .ok true) (ty1_numbers_told) p_words) fun x2 =>
  cond (decide (none ∈ x2))
  (TR.up (.rt none))
  (TR.ob ((unOs x2).map fun x => some x) .rt)) .no
theorem h_numbers_told (p_words : List Str) : RefR (m_numbers_told [(eL eZ) p_words]) (t_numbers_told p_words) (eO (eL eI)) := by
  unfold t_numbers_told
  refine ref_def (n := n_numbers_told.length) (fl := [true]) (g := g_numbers_told) (out := fun _ => [none, none, none]) (c := [some (.im ((eL eZ) p_words)), none, none]) rfl (.som (.non (.non .nil))) ?_ (.inr rfl)
  unfold g_numbers_told
  exact sim_setb (kpT) (ev_Ls (ev_lcp (ea := eZ) (eb := (eO eI)) (tst := (fun _ => .ok true)) (y := (ty1_numbers_told)) (ev1p (ev_I (eL eZ) p_words) (rf_seqL)) (fun a1 => ⟨_, evt_N, ev_C eB true, ev_w [false, false, true] (hy1_numbers_told a1)⟩))) (fun x2 => sim_guard (out1 := fun x => nomatch x) (ev2pp (ev_cop (e := (eO eI)) (y := none) (ev_C eN ())) (ev_I (eL (eO eI)) x2) (rf_inO)) (sim_ret (ev_cop (e := (eO (eL eI))) (y := none) (ev_C eN ()))) (sim_retb (kpT) (ev_co (e := (eO (eL eI))) (fun x => some x) (ev_unOs (ev_I (eL (eO eI)) x2)))))
def tb1_web_text  (a : Int × Int) (g : List Str) : TR (List Str) (List Str) Str := TR.ob (((((strT a.1).bind fun v5 => catZ ("tie " : Str) v5).bind fun v6 => catZ v6 (" " : Str)).bind fun v7 => (strT a.2).bind fun v8 => catZ v7 v8).bind (appT g)) fun x4 =>
  .nx x4
theorem hb1_web_text {c0 : Option Sl}  (a : Int × Int) (g : List Str) : Sim [c0, some (.mu (g.map eZ)), some (.im ((eP eI eI) a))] b1_web_text (tb1_web_text a g) (fun g : List Str => [c0, some (.mu (g.map eZ)), none]) (fun g : List Str => [c0, some (.mu (g.map eZ)), none]) keT eZ := by
  unfold b1_web_text tb1_web_text
  exact sim_last (sim_mutb (e2 := eZ) (l := g) (kpT) rfl (ev2bb (ev2bp (ev2pb (ev_C eZ ("tie " : Str)) (ev_A (eva_p (ev2pp (ev_I (eP eI eI) a) (ev_C eI (0 : Int)) (rf_ixP0)) (eva_nil (rf_str)))) (fun v5 => rf_addZ)) (ev_C eZ (" " : Str)) (fun v6 => rf_addZ)) (ev_A (eva_p (ev2pp (ev_I (eP eI eI) a) (ev_C eI (1 : Int)) (rf_ixP1)) (eva_nil (rf_str)))) (fun v7 v8 => rf_addZ)) (fun _ => ro_app) (fun x4 => sim_next (x := x4) [true, true, false] rfl))
def t_web_text (p_web : W) : R Str := TR.out (Γ := Unit) (TR.ob (((strT p_web.many).bind fun v1 => catZ ("places " : Str) v1).bind fun v2 => .ok ([v2] : List Str)) fun x3 =>
  TR.sq (forT (tb1_web_text) p_web.ties x3) fun g9 =>
  TR.ob ((joinT ("\n" : Str) g9).bind fun v10 => catZ v10 ("\n" : Str)) .rt) .no
theorem h_web_text (p_web : W) : RefR (m_web_text [eW p_web]) (t_web_text p_web) eZ := by
  unfold t_web_text
  refine ref_def (n := n_web_text.length) (fl := [true]) (g := g_web_text) (out := fun _ => [none, none, none]) (c := [some (.im (eW p_web)), none, none]) rfl (.som (.non (.non .nil))) ?_ (.inr rfl)
  unfold g_web_text
  exact sim_setMb (kpT) (ev_A (eva_b (ev2pb (ev_C eZ ("places " : Str)) (ev_A (eva_p (ev1p (ev_I eW p_web) (rf_many)) (eva_nil (rf_str)))) (fun v1 => rf_addZ)) (fun v2 => eva_nil (rf_lst (l := ([v2] : List Str)) (e := eZ))))) (fun x3 => sim_seq (sim_for (e1 := (eP eI eI)) (tb1_web_text) (fun g9 : List Str => [some (.im (eW p_web)), some (.mu (g9.map eZ)), none]) [true, true, false] (ev1p (ev1p (ev_I eW p_web) (rf_ties)) (rf_seqT)) (fun a11 g9 => ⟨_, evt_N, hb1_web_text a11 g9⟩) rfl) (fun g9 => sim_retb (kpT) (ev2bp (ev2pp (ev1p (ev_C eZ ("\n" : Str)) (rf_zs)) (ev_Ls (ev_Vm eZ g9)) (rf_join)) (ev_C eZ ("\n" : Str)) (fun v10 => rf_addZ))))
def t_row_told (p_row : Str) (p_word : Str) (p_many : Int) (p_at : Int) : R (Option (List Int)) := TR.out (Γ := Unit) (TR.ob (splitT p_row (" " : Str)) fun x1 =>
  TR.ob (t_numbers_told (cutL x1 (some (1 : Int)) none)) fun x2 =>
  TR.ob (((ixT x1 (0 : Int)).bind fun v3 => (eqZ v3 p_word).map (!·)).bind fun k4 => cond k4 (.ok true) (.ok ((!decide ((x1.length : Int) = p_many + (1 : Int))) || x2.isNone))) fun k5 => cond k5
  (TR.up (.er 12 [eI p_at]))
  (.rt x2)) .no
theorem h_row_told (p_row : Str) (p_word : Str) (p_many : Int) (p_at : Int) : RefR (m_row_told [eZ p_row, eZ p_word, eI p_many, eI p_at]) (t_row_told p_row p_word p_many p_at) (eO (eL eI)) := by
  unfold t_row_told
  refine ref_def (n := n_row_told.length) (fl := [true, true, true, true]) (g := g_row_told) (out := fun _ => [none, none, none, none, none, none]) (c := [some (.im (eZ p_row)), some (.im (eZ p_word)), some (.im (eI p_many)), some (.im (eI p_at)), none, none]) rfl (.som (.som (.som (.som (.non (.non .nil)))))) ?_ (.inr rfl)
  unfold g_row_told
  exact sim_setb (kpT) (ev_Ls (ev2pp (ev1p (ev_I eZ p_row) (rf_zs)) (ev1p (ev_C eZ (" " : Str)) (rf_zs)) (rf_split))) (fun x1 => sim_setb (kpT) (ev_A (eva_p (ev_slp (ev_I (eL eZ) x1) (evo_S (ev_C eI (1 : Int))) (evo_N) rf_slL) (eva_nil (h_numbers_told (cutL x1 (some (1 : Int)) none))))) (fun x2 => sim_guardb (kpT) (out1 := fun x => nomatch x) (ev_orb (ev2bp (ev2pp (ev_I (eL eZ) x1) (ev_C eI (0 : Int)) (rf_ixL)) (ev_I eZ p_word) (fun v3 => rf_neZ)) (ev_orp (ev2pp (ev_A (eva_p (ev_I (eL eZ) x1) (eva_nil (rf_lenL)))) (ev2pp (ev_I eI p_many) (ev_C eI (1 : Int)) (rf_add)) (rf_ne plI)) (ev2pp (ev_I (eO (eL eI)) x2) (ev_C eN ()) (rf_isO nnL)))) (sim_raise1 (kpT) scI (ev_I eI p_at)) (sim_ret (ev_I (eO (eL eI)) x2))))
def tb1_read_web (p_rows : List Str) (a : Int) (g : List (Int × Int)) : TR (List (Int × Int)) (List (Int × Int)) W := TR.ob ((ixT p_rows a).bind fun v4 => t_row_told v4 ("tie" : Str) (2 : Int) (a + (1 : Int))) fun x5 =>
  TR.ob ((((unO x5).bind fun v7 => ixT v7 (0 : Int)).bind fun v9 => ((unO x5).bind fun v8 => ixT v8 (1 : Int)).bind fun v10 => .ok (v9, v10)).bind (appT g)) fun x6 =>
  .nx x6
theorem hb1_read_web {c0 c2 : Option Sl} (p_rows : List Str) (a : Int) (g : List (Int × Int)) : Sim [c0, some (.im ((eL eZ) p_rows)), c2, some (.mu (g.map (eP eI eI))), some (.im (eI a)), none] b1_read_web (tb1_read_web p_rows a g) (fun g : List (Int × Int) => [c0, some (.im ((eL eZ) p_rows)), c2, some (.mu (g.map (eP eI eI))), none, none]) (fun g : List (Int × Int) => [c0, some (.im ((eL eZ) p_rows)), c2, some (.mu (g.map (eP eI eI))), none, none]) keT eW := by
  unfold b1_read_web tb1_read_web
  exact sim_setb (kpT) (ev_A (eva_b (ev2pp (ev_I (eL eZ) p_rows) (ev_I eI a) (rf_ixL)) (fun v4 => eva_p (ev_C eZ ("tie" : Str)) (eva_p (ev_C eI (2 : Int)) (eva_p (ev2pp (ev_I eI a) (ev_C eI (1 : Int)) (rf_add)) (eva_nil (h_row_told v4 ("tie" : Str) (2 : Int) (a + (1 : Int))))))))) (fun x5 => sim_last (sim_mutb (e2 := (eP eI eI)) (l := g) (kpT) rfl (ev_A (eva_b (ev2bp (ev_un (ev_I (eO (eL eI)) x5)) (ev_C eI (0 : Int)) (fun v7 => rf_ixL)) (fun v9 => eva_b (ev2bp (ev_un (ev_I (eO (eL eI)) x5)) (ev_C eI (1 : Int)) (fun v8 => rf_ixL)) (fun v10 => eva_nil (rf_P (e1 := eI) (e2 := eI)))))) (fun _ => ro_app) (fun x6 => sim_next (x := x6) [true, true, true, true, false, false] rfl)))
def t_read_web (p_text : Str) : R W := TR.out (Γ := Unit) (TR.ob (splitT p_text ("\n" : Str)) fun x1 =>
  cond (decide ((x1.length : Int) = (1 : Int)))
  (TR.up (.er 12 [eI (1 : Int)]))
  (TR.ob ((ixT x1 (0 : Int)).bind fun v2 => t_row_told v2 ("places" : Str) (1 : Int) (1 : Int)) fun x3 =>
  TR.sq (TR.ob (range2T (1 : Int) ((x1.length : Int) - (1 : Int))) fun l17 => forT (tb1_read_web x1) l17 ([] : List (Int × Int))) fun g11 =>
  TR.ob ((ixT x1 (-(1 : Int))).bind fun v12 => (eqZ v12 ("" : Str)).map (!·)) fun k15 => cond k15
  (TR.up (.er 12 [eI (x1.length : Int)]))
  (TR.ob (((unO x3).bind fun v13 => ixT v13 (0 : Int)).bind fun v14 => mkW v14 g11) .rt))) .no
theorem h_read_web (p_text : Str) : RefR (m_read_web [eZ p_text]) (t_read_web p_text) eW := by
  unfold t_read_web
  refine ref_def (n := n_read_web.length) (fl := [true]) (g := g_read_web) (out := fun _ => [none, none, none, none, none, none]) (c := [some (.im (eZ p_text)), none, none, none, none, none]) rfl (.som (.non (.non (.non (.non (.non .nil)))))) ?_ (.inr rfl)
  unfold g_read_web
  exact sim_setb (kpT) (ev_Ls (ev2pp (ev1p (ev_I eZ p_text) (rf_zs)) (ev1p (ev_C eZ ("\n" : Str)) (rf_zs)) (rf_split))) (fun x1 => sim_guard (out1 := fun x => nomatch x) (ev2pp (ev_A (eva_p (ev_I (eL eZ) x1) (eva_nil (rf_lenL)))) (ev_C eI (1 : Int)) (rf_eq plI)) (sim_raise1 (kpT) scI (ev_C eI (1 : Int))) (sim_setb (kpT) (ev_A (eva_b (ev2pp (ev_I (eL eZ) x1) (ev_C eI (0 : Int)) (rf_ixL)) (fun v2 => eva_p (ev_C eZ ("places" : Str)) (eva_p (ev_C eI (1 : Int)) (eva_p (ev_C eI (1 : Int)) (eva_nil (h_row_told v2 ("places" : Str) (1 : Int) (1 : Int)))))))) (fun x3 => sim_setM (ev_A (eva_nil (rf_lst (l := ([] : List (Int × Int))) (e := (eP eI eI))))) (sim_seq (sim_forb (e1 := eI) (kpT) (tb1_read_web x1) (fun g11 : List (Int × Int) => [some (.im (eZ p_text)), some (.im ((eL eZ) x1)), some (.im ((eO (eL eI)) x3)), some (.mu (g11.map (eP eI eI))), none, none]) [true, true, true, true, false, false] (ev_A (eva_p (ev_C eI (1 : Int)) (eva_p (ev2pp (ev_A (eva_p (ev_I (eL eZ) x1) (eva_nil (rf_lenL)))) (ev_C eI (1 : Int)) (rf_sub)) (eva_nil (rf_range2))))) (fun a16 g11 => ⟨_, evt_N, hb1_read_web x1 a16 g11⟩) rfl) (fun g11 => sim_guardb (kpT) (out1 := fun x => nomatch x) (ev2bp (ev2pp (ev_I (eL eZ) x1) (ev1p (ev_C eI (1 : Int)) (rf_neg)) (rf_ixL)) (ev_C eZ ("" : Str)) (fun v12 => rf_neZ)) (sim_raise1 (kpT) scI (ev_A (eva_p (ev_I (eL eZ) x1) (eva_nil (rf_lenL))))) (sim_retb (kpT) (ev_lfD (ev_A (eva_b (ev2bp (ev_un (ev_I (eO (eL eI)) x3)) (ev_C eI (0 : Int)) (fun v13 => rf_ixL)) (fun v14 => eva_p (ev_Ls (ev_Vm (eP eI eI) g11)) (eva_nil (rf_webL))))) lfW)))))))
def ty1_flow_text  (a : Int) : R Str := strT a
theorem hy1_flow_text  (a : Int) : EvE [none, some (.im (eI a))] y1_flow_text (ty1_flow_text a) eZ := by
  unfold y1_flow_text ty1_flow_text
  exact ev_A (eva_p (ev_I eI a) (eva_nil (rf_str)))
def t_flow_text (p_flow : List Int) : R Str := TR.out (Γ := Unit) (TR.ob (((fLcT (fun _ => .ok true) (ty1_flow_text) p_flow).bind fun v2 => catT ([("flow" : Str)] : List Str) v2).bind fun v3 => joinT (" " : Str) v3) .rt) .no
theorem h_flow_text (p_flow : List Int) : RefR (m_flow_text [(eL eI) p_flow]) (t_flow_text p_flow) eZ := by
  unfold t_flow_text
  refine ref_def (n := n_flow_text.length) (fl := [true]) (g := g_flow_text) (out := fun _ => [none, none]) (c := [some (.im ((eL eI) p_flow)), none]) rfl (.som (.non .nil)) ?_ (.inr rfl)
  unfold g_flow_text
  exact sim_retb (kpT) (ev2pb (ev1p (ev_C eZ (" " : Str)) (rf_zs)) (ev_Ls (ev2pb (ev_Ls (ev_A (eva_p (ev_C eZ ("flow" : Str)) (eva_nil (rf_lst (l := ([("flow" : Str)] : List Str)) (e := eZ)))))) (ev_Ls (ev_lcp (ea := eI) (eb := eZ) (tst := (fun _ => .ok true)) (y := (ty1_flow_text)) (ev1p (ev_I (eL eI) p_flow) (rf_seqL)) (fun a1 => ⟨_, evt_N, ev_C eB true, ev_w [false, true] (hy1_flow_text a1)⟩))) (fun v2 => rf_cat))) (fun v3 => rf_join))
def t__law_cell (p_script : List Int) (p_k : Int) : R Int := TR.out (Γ := Unit) (cond (decide (p_k < (p_script.length : Int)))
  (TR.up (TR.ob (ixT p_script p_k) .rt))
  (.rt (0 : Int))) .no
theorem h__law_cell (p_script : List Int) (p_k : Int) : RefR (m__law_cell [eR p_script, eI p_k]) (t__law_cell p_script p_k) eI := by
  unfold t__law_cell
  refine ref_def (n := n__law_cell.length) (fl := [true, true]) (g := g__law_cell) (out := fun _ => [none, none]) (c := [some (.im (eR p_script)), some (.im (eI p_k))]) rfl (.som (.som .nil)) ?_ (.inr rfl)
  unfold g__law_cell
  exact sim_guard (out1 := fun x => nomatch x) (ev2pp (ev_I eI p_k) (ev_A (eva_p (ev_I eR p_script) (eva_nil (rf_lenR)))) (rf_lt)) (sim_retb (kpT) (ev2pp (ev_I eR p_script) (ev_I eI p_k) (rf_ixR))) (sim_ret (ev_C eI (0 : Int)))
def tb1__law_ends (p_script : List Int) (p_many : Int) (p_way : Int) (a : Int) (g : (List (Int × Int)) × Int) : TR ((List (Int × Int)) × Int) ((List (Int × Int)) × Int) (List (Int × Int)) := TR.ob (t__law_cell p_script ((2 : Int) + a)) fun x3 =>
  TR.sq (cond (decide (p_way = (1 : Int)))
  (TR.ob ((mulT p_many p_many).bind fun v5 => modT g.2 v5) fun x6 =>
  TR.ob ((mulT p_many p_many).bind fun v7 => fdivT g.2 v7) fun x8 =>
  .nx (x8, x6))
  (.nx (g.2, x3))) fun g4 =>
  TR.sq (cond (decide (p_way = (2 : Int)))
  (TR.ob (.ok ((((g4.1 + ((977 : Int) * a)) + (1 : Int)) * (48271 : Int)) % (1000000007 : Int))) fun x10 =>
  TR.ob ((mulT x10 x10).bind fun v11 => .ok (v11 % (998244353 : Int))) fun x12 =>
  .nx (x12, x12 / (8 : Int)))
  (.nx (g4.1, g4.2))) fun g9 =>
  TR.ob (((modT g9.2 p_many).bind fun v15 => ((fdivT g9.2 p_many).bind fun v14 => modT v14 p_many).bind fun v16 => .ok (v15, v16)).bind (appT g.1)) fun x13 =>
  .nx (x13, g9.1)
theorem hb1__law_ends {c2 : Option Sl} (p_script : List Int) (p_many : Int) (p_way : Int) (a : Int) (g : (List (Int × Int)) × Int) : Sim [some (.im (eR p_script)), some (.im (eI p_many)), c2, some (.im (eI p_way)), some (.mu (g.1.map (eP eI eI))), some (.im (eI g.2)), some (.im (eI a)), none] b1__law_ends (tb1__law_ends p_script p_many p_way a g) (fun g : (List (Int × Int)) × Int => [some (.im (eR p_script)), some (.im (eI p_many)), c2, some (.im (eI p_way)), some (.mu (g.1.map (eP eI eI))), some (.im (eI g.2)), none, none]) (fun g : (List (Int × Int)) × Int => [some (.im (eR p_script)), some (.im (eI p_many)), c2, some (.im (eI p_way)), some (.mu (g.1.map (eP eI eI))), some (.im (eI g.2)), none, none]) keT (eL (eP eI eI)) := by
  unfold b1__law_ends tb1__law_ends
  exact sim_setb (kpT) (ev_A (eva_p (ev_I eR p_script) (eva_p (ev2pp (ev_C eI (2 : Int)) (ev_I eI a) (rf_add)) (eva_nil (h__law_cell p_script ((2 : Int) + a)))))) (fun x3 => sim_seq (out1 := (fun g4 : Int × Int => [some (.im (eR p_script)), some (.im (eI p_many)), c2, some (.im (eI p_way)), some (.mu (g.1.map (eP eI eI))), some (.im (eI g4.1)), some (.im (eI a)), some (.im (eI g4.2))])) (sim_if (ev2pp (ev_I eI p_way) (ev_C eI (1 : Int)) (rf_eq plI)) (sim_setb (kpT) (ev2pb (ev_I eI g.2) (ev2pp (ev_I eI p_many) (ev_I eI p_many) (rf_mul)) (fun v5 => rf_mod)) (fun x6 => sim_last (sim_setb (kpT) (ev2pb (ev_I eI g.2) (ev2pp (ev_I eI p_many) (ev_I eI p_many) (rf_mul)) (fun v7 => rf_fdiv)) (fun x8 => sim_next (x := (x8, x6)) [true, true, true, true, true, true, true, true] rfl)))) (sim_next (x := (g.2, x3)) [true, true, true, true, true, true, true, true] rfl)) (fun g4 => sim_seq (out1 := (fun g9 : Int × Int => [some (.im (eR p_script)), some (.im (eI p_many)), c2, some (.im (eI p_way)), some (.mu (g.1.map (eP eI eI))), some (.im (eI g9.1)), some (.im (eI a)), some (.im (eI g9.2))])) (sim_if (ev2pp (ev_I eI p_way) (ev_C eI (2 : Int)) (rf_eq plI)) (sim_setb (kpT) (ev2pp (ev2pp (ev2pp (ev2pp (ev_I eI g4.1) (ev2pp (ev_C eI (977 : Int)) (ev_I eI a) (rf_mulL)) (rf_add)) (ev_C eI (1 : Int)) (rf_add)) (ev_C eI (48271 : Int)) (rf_mulR)) (ev_C eI (1000000007 : Int)) (rf_modL)) (fun x10 => sim_setb (kpT) (ev2bp (ev2pp (ev_I eI x10) (ev_I eI x10) (rf_mul)) (ev_C eI (998244353 : Int)) (fun v11 => rf_modL)) (fun x12 => sim_last (sim_set (ev2pp (ev_I eI x12) (ev_C eI (8 : Int)) (rf_fdivL)) (sim_next (x := (x12, x12 / (8 : Int))) [true, true, true, true, true, true, true, true] rfl))))) (sim_next (x := (g4.1, g4.2)) [true, true, true, true, true, true, true, true] rfl)) (fun g9 => sim_last (sim_mutb (e2 := (eP eI eI)) (l := g.1) (kpT) rfl (ev_A (eva_b (ev2pp (ev_I eI g9.2) (ev_I eI p_many) (rf_mod)) (fun v15 => eva_b (ev2bp (ev2pp (ev_I eI g9.2) (ev_I eI p_many) (rf_fdiv)) (ev_I eI p_many) (fun v14 => rf_mod)) (fun v16 => eva_nil (rf_P (e1 := eI) (e2 := eI)))))) (fun _ => ro_app) (fun x13 => sim_next (x := (x13, g9.1)) [true, true, true, true, true, true, false, false] rfl)))))
def t__law_ends (p_script : List Int) (p_many : Int) (p_count : Int) (p_way : Int) : R (List (Int × Int)) := TR.out (Γ := Unit) (TR.ob (t__law_cell p_script (1 : Int)) fun x1 =>
  TR.sq (cond (decide (p_way = (2 : Int)))
  (.nx (x1 % (1000000007 : Int)))
  (.nx x1)) fun g2 =>
  TR.sq (TR.ob (rangeT p_count) fun l19 => forT (tb1__law_ends p_script p_many p_way) l19 (([] : List (Int × Int)), g2)) fun g17 =>
  .rt g17.1) .no
theorem h__law_ends (p_script : List Int) (p_many : Int) (p_count : Int) (p_way : Int) : RefR (m__law_ends [eR p_script, eI p_many, eI p_count, eI p_way]) (t__law_ends p_script p_many p_count p_way) (eL (eP eI eI)) := by
  unfold t__law_ends
  refine ref_defN (n := n__law_ends.length) (fl := [true, true, true, true]) (g := g__law_ends) (out := fun _ => [none, none, none, none, none, none, none, none]) (c := [some (.im (eR p_script)), some (.im (eI p_many)), some (.im (eI p_count)), some (.im (eI p_way)), none, none, none, none]) rfl (.som (.som (.som (.som (.non (.non (.non (.non .nil)))))))) ?_
  unfold g__law_ends
  exact sim_setM (ev_A (eva_nil (rf_lst (l := ([] : List (Int × Int))) (e := (eP eI eI))))) (sim_setb (kpT) (ev_A (eva_p (ev_I eR p_script) (eva_p (ev_C eI (1 : Int)) (eva_nil (h__law_cell p_script (1 : Int)))))) (fun x1 => sim_seq (out1 := (fun g2 : Int => [some (.im (eR p_script)), some (.im (eI p_many)), some (.im (eI p_count)), some (.im (eI p_way)), some (.mu (([] : List (Int × Int)).map (eP eI eI))), some (.im (eI g2)), none, none])) (sim_if (ev2pp (ev_I eI p_way) (ev_C eI (2 : Int)) (rf_eq plI)) (sim_last (sim_set (ev2pp (ev_I eI x1) (ev_C eI (1000000007 : Int)) (rf_modL)) (sim_next (x := (x1 % (1000000007 : Int))) [true, true, true, true, true, true, false, false] rfl))) (sim_next (x := x1) [true, true, true, true, true, true, false, false] rfl)) (fun g2 => sim_seq (sim_forb (e1 := eI) (kpT) (tb1__law_ends p_script p_many p_way) (fun g17 : (List (Int × Int)) × Int => [some (.im (eR p_script)), some (.im (eI p_many)), some (.im (eI p_count)), some (.im (eI p_way)), some (.mu (g17.1.map (eP eI eI))), some (.im (eI g17.2)), none, none]) [true, true, true, true, true, true, false, false] (ev_A (eva_p (ev_I eI p_count) (eva_nil (rf_range)))) (fun a18 g17 => ⟨_, evt_N, hb1__law_ends p_script p_many p_way a18 g17⟩) rfl) (fun g17 => sim_retM (x := g17.1) (e := (eL (eP eI eI))) rfl rfl))))
def t__law_drawn (p_script : List Int) : R (Int × (List (Int × Int))) := TR.out (Γ := Unit) (TR.ob (t__law_cell p_script (0 : Int)) fun x1 =>
  TR.sq (cond (decide (x1 % (2 : Int) = (1 : Int)))
  (TR.ob (.ok ((((x1 % (1000000007 : Int)) * (48271 : Int)) + (11 : Int)) % (2147483647 : Int))) fun x3 =>
  TR.ob ((mulT x3 x3).bind fun v4 => .ok (v4 % (998244353 : Int))) fun x5 =>
  .nx x5)
  (.nx x1)) fun g2 =>
  TR.ob (.ok ((1 : Int) + (g2 % (20 : Int)))) fun x6 =>
  TR.ob ((t__law_ends p_script x6 ((g2 / (60 : Int)) % (41 : Int)) ((g2 / (20 : Int)) % (3 : Int))).bind fun v7 => .ok (x6, v7)) .rt) .no
theorem h__law_drawn (p_script : List Int) : RefR (m__law_drawn [eR p_script]) (t__law_drawn p_script) (eP eI (eL (eP eI eI))) := by
  unfold t__law_drawn
  refine ref_def (n := n__law_drawn.length) (fl := [true]) (g := g__law_drawn) (out := fun _ => [none, none, none]) (c := [some (.im (eR p_script)), none, none]) rfl (.som (.non (.non .nil))) ?_ (.inr rfl)
  unfold g__law_drawn
  exact sim_setb (kpT) (ev_A (eva_p (ev_I eR p_script) (eva_p (ev_C eI (0 : Int)) (eva_nil (h__law_cell p_script (0 : Int)))))) (fun x1 => sim_seq (out1 := (fun g2 : Int => [some (.im (eR p_script)), some (.im (eI g2)), none])) (sim_if (ev2pp (ev2pp (ev_I eI x1) (ev_C eI (2 : Int)) (rf_modL)) (ev_C eI (1 : Int)) (rf_eq plI)) (sim_setb (kpT) (ev2pp (ev2pp (ev2pp (ev2pp (ev_I eI x1) (ev_C eI (1000000007 : Int)) (rf_modL)) (ev_C eI (48271 : Int)) (rf_mulR)) (ev_C eI (11 : Int)) (rf_add)) (ev_C eI (2147483647 : Int)) (rf_modL)) (fun x3 => sim_last (sim_setb (kpT) (ev2bp (ev2pp (ev_I eI x3) (ev_I eI x3) (rf_mul)) (ev_C eI (998244353 : Int)) (fun v4 => rf_modL)) (fun x5 => sim_next (x := x5) [true, true, false] rfl)))) (sim_next (x := x1) [true, true, false] rfl)) (fun g2 => sim_setb (kpT) (ev2pp (ev_C eI (1 : Int)) (ev2pp (ev_I eI g2) (ev_C eI (20 : Int)) (rf_modL)) (rf_add)) (fun x6 => sim_retb (kpT) (ev_A (eva_p (ev_I eI x6) (eva_b (ev_Ls (ev_A (eva_p (ev_I eR p_script) (eva_p (ev_I eI x6) (eva_p (ev2pp (ev2pp (ev_I eI g2) (ev_C eI (60 : Int)) (rf_fdivL)) (ev_C eI (41 : Int)) (rf_modL)) (eva_p (ev2pp (ev2pp (ev_I eI g2) (ev_C eI (20 : Int)) (rf_fdivL)) (ev_C eI (3 : Int)) (rf_modL)) (eva_nil (h__law_ends p_script x6 ((g2 / (60 : Int)) % (41 : Int)) ((g2 / (20 : Int)) % (3 : Int)))))))))) (fun v7 => eva_nil (rf_P (e1 := eI) (e2 := (eL (eP eI eI)))))))))))
def tb1__law_amounts (p_script : List Int) (p_way : Int) (a : Int) (g : (List Int) × Int) : TR ((List Int) × Int) ((List Int) × Int) (List Int) := TR.ob (t__law_cell p_script ((2 : Int) + a)) fun x2 =>
  TR.sq (cond (decide (p_way = (1 : Int)))
  (.nx (g.2 / (30 : Int), g.2 % (30 : Int)))
  (.nx (g.2, x2))) fun g3 =>
  TR.ob (.ok ((g3.2 / (3 : Int)) % ((10 : Int) ^ (39 : Nat)))) fun x4 =>
  TR.sq (cond (decide (g3.2 % (3 : Int) = (1 : Int)))
  (.nx (-x4))
  (.nx x4)) fun g5 =>
  TR.sq (cond (decide (g3.2 % (3 : Int) = (2 : Int)))
  (TR.ob (.ok ((g5 % (3 : Int)) - (1 : Int))) fun x7 =>
  .nx x7)
  (.nx g5)) fun g6 =>
  TR.ob (appT g.1 g6) fun x8 =>
  .nx (x8, g3.1)
theorem hb1__law_amounts {c1 : Option Sl} (p_script : List Int) (p_way : Int) (a : Int) (g : (List Int) × Int) : Sim [some (.im (eR p_script)), c1, some (.im (eI p_way)), some (.mu (g.1.map eI)), some (.im (eI g.2)), some (.im (eI a)), none, none] b1__law_amounts (tb1__law_amounts p_script p_way a g) (fun g : (List Int) × Int => [some (.im (eR p_script)), c1, some (.im (eI p_way)), some (.mu (g.1.map eI)), some (.im (eI g.2)), none, none, none]) (fun g : (List Int) × Int => [some (.im (eR p_script)), c1, some (.im (eI p_way)), some (.mu (g.1.map eI)), some (.im (eI g.2)), none, none, none]) keT (eL eI) := by
  unfold b1__law_amounts tb1__law_amounts
  exact sim_setb (kpT) (ev_A (eva_p (ev_I eR p_script) (eva_p (ev2pp (ev_C eI (2 : Int)) (ev_I eI a) (rf_add)) (eva_nil (h__law_cell p_script ((2 : Int) + a)))))) (fun x2 => sim_seq (out1 := (fun g3 : Int × Int => [some (.im (eR p_script)), c1, some (.im (eI p_way)), some (.mu (g.1.map eI)), some (.im (eI g3.1)), some (.im (eI a)), some (.im (eI g3.2)), none])) (sim_if (ev2pp (ev_I eI p_way) (ev_C eI (1 : Int)) (rf_eq plI)) (sim_set (ev2pp (ev_I eI g.2) (ev_C eI (30 : Int)) (rf_modL)) (sim_last (sim_set (ev2pp (ev_I eI g.2) (ev_C eI (30 : Int)) (rf_fdivL)) (sim_next (x := (g.2 / (30 : Int), g.2 % (30 : Int))) [true, true, true, true, true, true, true, false] rfl)))) (sim_next (x := (g.2, x2)) [true, true, true, true, true, true, true, false] rfl)) (fun g3 => sim_setb (kpT) (ev2pp (ev2pp (ev_I eI g3.2) (ev_C eI (3 : Int)) (rf_fdivL)) (ev2pp (ev_C eI (10 : Int)) (ev_C eI (39 : Int)) (rf_powL (i := (10 : Int)) (j := 39))) (rf_modL)) (fun x4 => sim_seq (out1 := (fun g5 : Int => [some (.im (eR p_script)), c1, some (.im (eI p_way)), some (.mu (g.1.map eI)), some (.im (eI g3.1)), some (.im (eI a)), some (.im (eI g3.2)), some (.im (eI g5))])) (sim_if (ev2pp (ev2pp (ev_I eI g3.2) (ev_C eI (3 : Int)) (rf_modL)) (ev_C eI (1 : Int)) (rf_eq plI)) (sim_last (sim_set (ev1p (ev_I eI x4) (rf_neg)) (sim_next (x := (-x4)) [true, true, true, true, true, true, true, true] rfl))) (sim_next (x := x4) [true, true, true, true, true, true, true, true] rfl)) (fun g5 => sim_seq (out1 := (fun g6 : Int => [some (.im (eR p_script)), c1, some (.im (eI p_way)), some (.mu (g.1.map eI)), some (.im (eI g3.1)), some (.im (eI a)), some (.im (eI g3.2)), some (.im (eI g6))])) (sim_if (ev2pp (ev2pp (ev_I eI g3.2) (ev_C eI (3 : Int)) (rf_modL)) (ev_C eI (2 : Int)) (rf_eq plI)) (sim_last (sim_setb (kpT) (ev2pp (ev2pp (ev_I eI g5) (ev_C eI (3 : Int)) (rf_modL)) (ev_C eI (1 : Int)) (rf_sub)) (fun x7 => sim_next (x := x7) [true, true, true, true, true, true, true, true] rfl))) (sim_next (x := g5) [true, true, true, true, true, true, true, true] rfl)) (fun g6 => sim_last (sim_mut (e2 := eI) (l := g.1) rfl (ev_I eI g6) ro_app (fun x8 => sim_next (x := (x8, g3.1)) [true, true, true, true, true, false, false, false] rfl)))))))
def t__law_amounts (p_script : List Int) (p_count : Int) (p_way : Int) : R (List Int) := TR.out (Γ := Unit) (TR.ob (t__law_cell p_script (1 : Int)) fun x1 =>
  TR.sq (TR.ob (rangeT p_count) fun l11 => forT (tb1__law_amounts p_script p_way) l11 (([] : List Int), x1)) fun g9 =>
  .rt g9.1) .no
theorem h__law_amounts (p_script : List Int) (p_count : Int) (p_way : Int) : RefR (m__law_amounts [eR p_script, eI p_count, eI p_way]) (t__law_amounts p_script p_count p_way) (eL eI) := by
  unfold t__law_amounts
  refine ref_defN (n := n__law_amounts.length) (fl := [true, true, true]) (g := g__law_amounts) (out := fun _ => [none, none, none, none, none, none, none, none]) (c := [some (.im (eR p_script)), some (.im (eI p_count)), some (.im (eI p_way)), none, none, none, none, none]) rfl (.som (.som (.som (.non (.non (.non (.non (.non .nil)))))))) ?_
  unfold g__law_amounts
  exact sim_setM (ev_A (eva_nil (rf_lst (l := ([] : List Int)) (e := eI)))) (sim_setb (kpT) (ev_A (eva_p (ev_I eR p_script) (eva_p (ev_C eI (1 : Int)) (eva_nil (h__law_cell p_script (1 : Int)))))) (fun x1 => sim_seq (sim_forb (e1 := eI) (kpT) (tb1__law_amounts p_script p_way) (fun g9 : (List Int) × Int => [some (.im (eR p_script)), some (.im (eI p_count)), some (.im (eI p_way)), some (.mu (g9.1.map eI)), some (.im (eI g9.2)), none, none, none]) [true, true, true, true, true, false, false, false] (ev_A (eva_p (ev_I eI p_count) (eva_nil (rf_range)))) (fun a10 g9 => ⟨_, evt_N, hb1__law_amounts p_script p_way a10 g9⟩) rfl) (fun g9 => sim_retM (x := g9.1) (e := (eL eI)) rfl rfl)))
def t__law_whole (p_found : Option Int) : R Bool := TR.out (Γ := Unit) (.rt ((true && p_found.isSome) && (!(false && p_found.isSome)))) .no
theorem h__law_whole (p_found : Option Int) : RefR (m__law_whole [(eO eI) p_found]) (t__law_whole p_found) eB := by
  unfold t__law_whole
  refine ref_def (n := n__law_whole.length) (fl := [true]) (g := g__law_whole) (out := fun _ => [none]) (c := [some (.im ((eO eI) p_found))]) rfl (.som .nil) ?_ (.inr rfl)
  unfold g__law_whole
  exact sim_ret (ev_andp (ev1p (ev_I (eO eI) p_found) (rf_isOpt (T := "int") (b := true) (fun _ => rfl) rfl)) (ev_not (ev1p (ev_I (eO eI) p_found) (rf_isOpt (T := "bool") (b := false) (fun _ => rfl) rfl))))
def tb1__law_is_web  (a : Int × Int) (g : Unit) : TR Unit Unit Bool := TR.sq (TR.ob (cond (!true) (.ok true) (((t__law_whole (some a.1)).map (!·)).bind fun k3 => cond k3 (.ok true) ((t__law_whole (some a.2)).map (!·)))) fun k5 => cond k5
  (.rt false)
  (.nx ())) fun g4 =>
  .nx ()
theorem hb1__law_is_web {c0 c1 c2 : Option Sl}  (a : Int × Int) (g : Unit) : Sim [c0, c1, c2, some (.im ((eP eI eI) a))] b1__law_is_web (tb1__law_is_web a g) (fun g : Unit => [c0, c1, c2, none]) (fun g : Unit => [c0, c1, c2, none]) keT eB := by
  unfold b1__law_is_web tb1__law_is_web
  exact sim_last (sim_seq (out1 := (fun g4 : Unit => [c0, c1, c2, some (.im ((eP eI eI) a))])) (sim_ifb (kpT) (ev_or (ev_not (ev1p (ev_I (eP eI eI) a) (rf_is (e := (eP eI eI)) (x := a) (fun _ => rfl)))) (ev_orb (ev_notb (ev_A (eva_p (ev_cop (e := (eO eI)) (y := (some a.1)) (ev2pp (ev_I (eP eI eI) a) (ev_C eI (0 : Int)) (rf_ixP0))) (eva_nil (h__law_whole (some a.1)))))) (ev_notb (ev_A (eva_p (ev_cop (e := (eO eI)) (y := (some a.2)) (ev2pp (ev_I (eP eI eI) a) (ev_C eI (1 : Int)) (rf_ixP1))) (eva_nil (h__law_whole (some a.2)))))))) (sim_ret (ev_C eB false)) (sim_next (x := ()) [true, true, true, true] rfl)) (fun g4 => sim_next (x := ()) [true, true, true, false] rfl))
def t__law_is_web (p_web : W) (p_many : Int) (p_ends_here : List (Int × Int)) : R Bool := TR.out (Γ := Unit) (TR.ob (((isoW [(0, true)]).map (!·)).bind fun k2 => cond k2 (.ok true) (((t__law_whole (some p_web.many)).map (!·)).bind fun k1 => cond k1 (.ok true) (.ok ((!decide (p_web.many = p_many)) || (!true))))) fun k8 => cond k8
  (TR.up (.rt false))
  (cond (!decide (p_web.ties = p_ends_here))
  (TR.up (.rt false))
  (TR.sq (forT (tb1__law_is_web) p_web.ties ()) fun g6 =>
  .rt true))) .no
theorem h__law_is_web (p_web : W) (p_many : Int) (p_ends_here : List (Int × Int)) : RefR (m__law_is_web [eW p_web, eI p_many, (eL (eP eI eI)) p_ends_here]) (t__law_is_web p_web p_many p_ends_here) eB := by
  unfold t__law_is_web
  refine ref_def (n := n__law_is_web.length) (fl := [true, true, true]) (g := g__law_is_web) (out := fun _ => [none, none, none, none]) (c := [some (.im (eW p_web)), some (.im (eI p_many)), some (.im ((eL (eP eI eI)) p_ends_here)), none]) rfl (.som (.som (.som (.non .nil)))) ?_ (.inr rfl)
  unfold g__law_is_web
  exact sim_guardb (kpT) (out1 := fun x => nomatch x) (ev_orb (ev_notb (ev1p (ev_I eW p_web) (rf_isoW))) (ev_orb (ev_notb (ev_A (eva_p (ev_cop (e := (eO eI)) (y := (some p_web.many)) (ev1p (ev_I eW p_web) (rf_many))) (eva_nil (h__law_whole (some p_web.many)))))) (ev_orp (ev2pp (ev1p (ev_I eW p_web) (rf_many)) (ev_I eI p_many) (rf_ne plI)) (ev_not (ev1p (ev1p (ev_I eW p_web) (rf_ties)) (rf_is (e := (eT (eP eI eI))) (x := p_web.ties) (fun _ => rfl))))))) (sim_ret (ev_C eB false)) (sim_guard (out1 := fun x => nomatch x) (ev2pp (ev_Ls (ev_A (eva_p (ev1p (ev_I eW p_web) (rf_ties)) (eva_nil (rf_listT))))) (ev_I (eL (eP eI eI)) p_ends_here) (rf_ne (plL (plPr plI plI)))) (sim_ret (ev_C eB false)) (sim_seq (sim_for (e1 := (eP eI eI)) (tb1__law_is_web) (fun g6 : Unit => [some (.im (eW p_web)), some (.im (eI p_many)), some (.im ((eL (eP eI eI)) p_ends_here)), none]) [true, true, true, false] (ev1p (ev1p (ev_I eW p_web) (rf_ties)) (rf_seqT)) (fun a7 g6 => ⟨_, evt_N, hb1__law_is_web a7 g6⟩) rfl) (fun g6 => sim_ret (ev_C eB true))))
def ty1__law_text  (a : Int × Int) : R Str := ((((strT a.1).bind fun v5 => catZ ("tie " : Str) v5).bind fun v6 => catZ v6 (" " : Str)).bind fun v7 => (strT a.2).bind fun v8 => catZ v7 v8).bind fun v9 => catZ v9 ("\n" : Str)
theorem hy1__law_text  (a : Int × Int) : EvE [none, none, none, some (.im (eI a.1)), some (.im (eI a.2))] y1__law_text (ty1__law_text a) eZ := by
  unfold y1__law_text ty1__law_text
  exact ev2bp (ev2bb (ev2bp (ev2pb (ev_C eZ ("tie " : Str)) (ev_A (eva_p (ev_I eI a.1) (eva_nil (rf_str)))) (fun v5 => rf_addZ)) (ev_C eZ (" " : Str)) (fun v6 => rf_addZ)) (ev_A (eva_p (ev_I eI a.2) (eva_nil (rf_str)))) (fun v7 v8 => rf_addZ)) (ev_C eZ ("\n" : Str)) (fun v9 => rf_addZ)
def t__law_text (p_many : Int) (p_ends_here : List (Int × Int)) : R Str := TR.out (Γ := Unit) (TR.ob ((((strT p_many).bind fun v1 => catZ ("places " : Str) v1).bind fun v2 => catZ v2 ("\n" : Str)).bind fun v3 => .ok ([v3] : List Str)) fun x4 =>
  TR.ob (((fLcT (fun _ => .ok true) (ty1__law_text) p_ends_here).bind fun v11 => catT x4 v11).bind fun v12 => joinT ("" : Str) v12) .rt) .no
theorem h__law_text (p_many : Int) (p_ends_here : List (Int × Int)) : RefR (m__law_text [eI p_many, (eL (eP eI eI)) p_ends_here]) (t__law_text p_many p_ends_here) eZ := by
  unfold t__law_text
  refine ref_def (n := n__law_text.length) (fl := [true, true]) (g := g__law_text) (out := fun _ => [none, none, none, none, none]) (c := [some (.im (eI p_many)), some (.im ((eL (eP eI eI)) p_ends_here)), none, none, none]) rfl (.som (.som (.non (.non (.non .nil))))) ?_ (.inr rfl)
  unfold g__law_text
  exact sim_setb (kpT) (ev_Ls (ev_A (eva_b (ev2bp (ev2pb (ev_C eZ ("places " : Str)) (ev_A (eva_p (ev_I eI p_many) (eva_nil (rf_str)))) (fun v1 => rf_addZ)) (ev_C eZ ("\n" : Str)) (fun v2 => rf_addZ)) (fun v3 => eva_nil (rf_lst (l := ([v3] : List Str)) (e := eZ)))))) (fun x4 => sim_retb (kpT) (ev2pb (ev1p (ev_C eZ ("" : Str)) (rf_zs)) (ev_Ls (ev2pb (ev_Ls (ev_I (eL eZ) x4)) (ev_Ls (ev_lcp (ea := (eP eI eI)) (eb := eZ) (tst := (fun _ => .ok true)) (y := (ty1__law_text)) (ev1p (ev_I (eL (eP eI eI)) p_ends_here) (rf_seqL)) (fun a10 => ⟨_, evt_T rfl (evts_cons (evt_N) (evts_cons (evt_N) (evts_nil))), ev_C eB true, ev_w [false, false, false, true, true] (hy1__law_text a10)⟩))) (fun v11 => rf_cat))) (fun v12 => rf_join)))
def tb1__law_number  (a : Str) (g : Unit) : TR Unit Unit (Option Int) := TR.sq (cond (!(inZ a ("0123456789" : Str)))
  (.rt none)
  (.nx ())) fun g10 =>
  .nx ()
theorem hb1__law_number {c0 c1 : Option Sl}  (a : Str) (g : Unit) : Sim [c0, c1, some (.im (eZ a))] b1__law_number (tb1__law_number a g) (fun g : Unit => [c0, c1, none]) (fun g : Unit => [c0, c1, none]) keT (eO eI) := by
  unfold b1__law_number tb1__law_number
  exact sim_last (sim_seq (out1 := (fun g10 : Unit => [c0, c1, some (.im (eZ a))])) (sim_if (ev2pp (ev_I eZ a) (ev_C eZ ("0123456789" : Str)) (rf_nin rf_inZ)) (sim_ret (ev_cop (e := (eO eI)) (y := none) (ev_C eN ()))) (sim_next (x := ()) [true, true, true] rfl)) (fun g10 => sim_next (x := ()) [true, true, false] rfl))
def t__law_number (p_word : Str) : R (Option Int) := TR.out (Γ := Unit) (TR.sq (TR.ob ((slZ p_word none (some (1 : Int))).bind fun v1 => eqZ v1 ("-" : Str)) fun k14 => cond k14
  (TR.ob (slZ p_word (some (1 : Int)) none) fun x3 =>
  .nx x3)
  (.nx p_word)) fun g2 =>
  TR.ob ((eqZ g2 ("" : Str)).bind fun k9 => cond k9 (.ok true) (((lenZ g2).bind fun v4 => .ok (decide ((60 : Int) < v4))).bind fun k8 => cond k8 (.ok true) ((eqZ p_word ("-0" : Str)).bind fun k7 => cond k7 (.ok true) (((ixZ g2 (0 : Int)).bind fun v5 => eqZ v5 ("0" : Str)).bind fun k6 => cond k6 ((eqZ g2 ("0" : Str)).map (!·)) (.ok false))))) fun k13 => cond k13
  (TR.up (.rt none))
  (TR.sq (forT (tb1__law_number) (signsT g2) ()) fun g11 =>
  TR.ob ((intZ p_word).map fun x => some x) .rt)) .no
theorem h__law_number (p_word : Str) : RefR (m__law_number [eZ p_word]) (t__law_number p_word) (eO eI) := by
  unfold t__law_number
  refine ref_def (n := n__law_number.length) (fl := [true]) (g := g__law_number) (out := fun _ => [none, none, none]) (c := [some (.im (eZ p_word)), none, none]) rfl (.som (.non (.non .nil))) ?_ (.inr rfl)
  unfold g__law_number
  exact sim_set (ev_I eZ p_word) (sim_seq (out1 := (fun g2 : Str => [some (.im (eZ p_word)), some (.im (eZ g2)), none])) (sim_ifb (kpT) (ev2bp (ev_slp (ev_I eZ p_word) (evo_N) (evo_S (ev_C eI (1 : Int))) rf_slZ) (ev_C eZ ("-" : Str)) (fun v1 => rf_eqZ)) (sim_last (sim_setb (kpT) (ev_slp (ev_I eZ p_word) (evo_S (ev_C eI (1 : Int))) (evo_N) rf_slZ) (fun x3 => sim_next (x := x3) [true, true, false] rfl))) (sim_next (x := p_word) [true, true, false] rfl)) (fun g2 => sim_guardb (kpT) (out1 := fun x => nomatch x) (ev_orb (ev2pp (ev_I eZ g2) (ev_C eZ ("" : Str)) (rf_eqZ)) (ev_orb (ev2bp (ev_A (eva_p (ev_I eZ g2) (eva_nil (rf_lenZ)))) (ev_C eI (60 : Int)) (fun v4 => rf_gt)) (ev_orb (ev2pp (ev_I eZ p_word) (ev_C eZ ("-0" : Str)) (rf_eqZ)) (ev_andb (ev2bp (ev2pp (ev_I eZ g2) (ev_C eI (0 : Int)) (rf_ixZ)) (ev_C eZ ("0" : Str)) (fun v5 => rf_eqZ)) (ev2pp (ev_I eZ g2) (ev_C eZ ("0" : Str)) (rf_neZ)))))) (sim_ret (ev_cop (e := (eO eI)) (y := none) (ev_C eN ()))) (sim_seq (sim_for (e1 := eZ) (tb1__law_number) (fun g11 : Unit => [some (.im (eZ p_word)), some (.im (eZ g2)), none]) [true, true, false] (ev1p (ev_I eZ g2) (rf_signs)) (fun a12 g11 => ⟨_, evt_N, hb1__law_number a12 g11⟩) rfl) (fun g11 => sim_retb (kpT) (ev_co (e := (eO eI)) (fun x => some x) (ev_A (eva_p (ev_I eZ p_word) (eva_nil (rf_intS)))))))))
def t__law_words (p_cell_here : Int) : R (List Str) := TR.out (Γ := Unit) (TR.ob (strT ((p_cell_here % ((2 : Int) * ((10 : Int) ^ (40 : Nat)))) - ((10 : Int) ^ (40 : Nat)))) fun x1 =>
  TR.ob (.ok ([("0" : Str), ("-" : Str), ("+" : Str), (" " : Str), ("_" : Str), ("." : Str), ("e" : Str), ("x" : Str), ("\n" : Str), ("7" : Str)] : List Str)) fun x2 =>
  TR.ob ((modT p_cell_here (x2.length : Int)).bind fun v3 => ixT x2 v3) fun x4 =>
  TR.ob (((lenZ x1).bind fun v5 => .ok (v5 + (1 : Int))).bind fun v6 => modT (p_cell_here / (10 : Int)) v6) fun x7 =>
  TR.ob (((mulZ ("0" : Str) (59 : Int)).bind fun v8 => catZ ("1" : Str) v8).bind fun v11 => ((mulZ ("0" : Str) (60 : Int)).bind fun v9 => catZ ("1" : Str) v9).bind fun v12 => ((mulZ ("0" : Str) (59 : Int)).bind fun v10 => catZ ("-1" : Str) v10).bind fun v13 => .ok ([("" : Str), ("-" : Str), ("-0" : Str), ("00" : Str), ("+1" : Str), ("1_0" : Str), (" 1" : Str), ("1 " : Str), ("--1" : Str), ("-01" : Str), v11, v12, v13] : List Str)) fun x14 =>
  TR.ob ((((mulZ ("0" : Str) (60 : Int)).bind fun v15 => catZ ("-1" : Str) v15).bind fun v16 => .ok ([v16, ("0" : Str), ("-7" : Str)] : List Str)).bind fun v17 => catT x14 v17) fun x18 =>
  TR.ob ((((slZ x1 none (some x7)).bind fun v19 => catZ v19 x4).bind fun v20 => (slZ x1 (some x7) none).bind fun v21 => catZ v20 v21).bind fun v23 => (catZ x4 x1).bind fun v24 => (catZ x1 x4).bind fun v25 => ((modT (p_cell_here / (3 : Int)) (x18.length : Int)).bind fun v22 => ixT x18 v22).bind fun v26 => (strT (p_cell_here % (7 : Int))).bind fun v27 => .ok ([x1, v23, v24, v25, v26, v27] : List Str)) .rt) .no
theorem h__law_words (p_cell_here : Int) : RefR (m__law_words [eI p_cell_here]) (t__law_words p_cell_here) (eL eZ) := by
  unfold t__law_words
  refine ref_defN (n := n__law_words.length) (fl := [true]) (g := g__law_words) (out := fun _ => [none, none, none, none, none, none]) (c := [some (.im (eI p_cell_here)), none, none, none, none, none]) rfl (.som (.non (.non (.non (.non (.non .nil)))))) ?_
  unfold g__law_words
  exact sim_setb (kpT) (ev_A (eva_p (ev2pp (ev2pp (ev_I eI p_cell_here) (ev2pp (ev_C eI (2 : Int)) (ev2pp (ev_C eI (10 : Int)) (ev_C eI (40 : Int)) (rf_powL (i := (10 : Int)) (j := 40))) (rf_mulL)) (rf_modL)) (ev2pp (ev_C eI (10 : Int)) (ev_C eI (40 : Int)) (rf_powL (i := (10 : Int)) (j := 40))) (rf_sub)) (eva_nil (rf_str)))) (fun x1 => sim_setb (kpT) (ev_Ls (ev_A (eva_p (ev_C eZ ("0" : Str)) (eva_p (ev_C eZ ("-" : Str)) (eva_p (ev_C eZ ("+" : Str)) (eva_p (ev_C eZ (" " : Str)) (eva_p (ev_C eZ ("_" : Str)) (eva_p (ev_C eZ ("." : Str)) (eva_p (ev_C eZ ("e" : Str)) (eva_p (ev_C eZ ("x" : Str)) (eva_p (ev_C eZ ("\n" : Str)) (eva_p (ev_C eZ ("7" : Str)) (eva_nil (rf_lst (l := ([("0" : Str), ("-" : Str), ("+" : Str), (" " : Str), ("_" : Str), ("." : Str), ("e" : Str), ("x" : Str), ("\n" : Str), ("7" : Str)] : List Str)) (e := eZ))))))))))))))) (fun x2 => sim_setb (kpT) (ev2pb (ev_I (eL eZ) x2) (ev2pp (ev_I eI p_cell_here) (ev_A (eva_p (ev_I (eL eZ) x2) (eva_nil (rf_lenL)))) (rf_mod)) (fun v3 => rf_ixL)) (fun x4 => sim_setb (kpT) (ev2pb (ev2pp (ev_I eI p_cell_here) (ev_C eI (10 : Int)) (rf_fdivL)) (ev2bp (ev_A (eva_p (ev_I eZ x1) (eva_nil (rf_lenZ)))) (ev_C eI (1 : Int)) (fun v5 => rf_add)) (fun v6 => rf_mod)) (fun x7 => sim_setb (kpT) (ev_Ls (ev_A (eva_p (ev_C eZ ("" : Str)) (eva_p (ev_C eZ ("-" : Str)) (eva_p (ev_C eZ ("-0" : Str)) (eva_p (ev_C eZ ("00" : Str)) (eva_p (ev_C eZ ("+1" : Str)) (eva_p (ev_C eZ ("1_0" : Str)) (eva_p (ev_C eZ (" 1" : Str)) (eva_p (ev_C eZ ("1 " : Str)) (eva_p (ev_C eZ ("--1" : Str)) (eva_p (ev_C eZ ("-01" : Str)) (eva_b (ev2pb (ev_C eZ ("1" : Str)) (ev2pp (ev_C eZ ("0" : Str)) (ev_C eI (59 : Int)) (rf_mulS)) (fun v8 => rf_addZ)) (fun v11 => eva_b (ev2pb (ev_C eZ ("1" : Str)) (ev2pp (ev_C eZ ("0" : Str)) (ev_C eI (60 : Int)) (rf_mulS)) (fun v9 => rf_addZ)) (fun v12 => eva_b (ev2pb (ev_C eZ ("-1" : Str)) (ev2pp (ev_C eZ ("0" : Str)) (ev_C eI (59 : Int)) (rf_mulS)) (fun v10 => rf_addZ)) (fun v13 => eva_nil (rf_lst (l := ([("" : Str), ("-" : Str), ("-0" : Str), ("00" : Str), ("+1" : Str), ("1_0" : Str), (" 1" : Str), ("1 " : Str), ("--1" : Str), ("-01" : Str), v11, v12, v13] : List Str)) (e := eZ)))))))))))))))))) (fun x14 => sim_setb (kpT) (ev_Ls (ev2pb (ev_Ls (ev_I (eL eZ) x14)) (ev_Ls (ev_A (eva_b (ev2pb (ev_C eZ ("-1" : Str)) (ev2pp (ev_C eZ ("0" : Str)) (ev_C eI (60 : Int)) (rf_mulS)) (fun v15 => rf_addZ)) (fun v16 => eva_p (ev_C eZ ("0" : Str)) (eva_p (ev_C eZ ("-7" : Str)) (eva_nil (rf_lst (l := ([v16, ("0" : Str), ("-7" : Str)] : List Str)) (e := eZ)))))))) (fun v17 => rf_cat))) (fun x18 => sim_retb (kpT) (ev_Ls (ev_A (eva_p (ev_I eZ x1) (eva_b (ev2bb (ev2bp (ev_slp (ev_I eZ x1) (evo_N) (evo_S (ev_I eI x7)) rf_slZ) (ev_I eZ x4) (fun v19 => rf_addZ)) (ev_slp (ev_I eZ x1) (evo_S (ev_I eI x7)) (evo_N) rf_slZ) (fun v20 v21 => rf_addZ)) (fun v23 => eva_b (ev2pp (ev_I eZ x4) (ev_I eZ x1) (rf_addZ)) (fun v24 => eva_b (ev2pp (ev_I eZ x1) (ev_I eZ x4) (rf_addZ)) (fun v25 => eva_b (ev2pb (ev_I (eL eZ) x18) (ev2pp (ev2pp (ev_I eI p_cell_here) (ev_C eI (3 : Int)) (rf_fdivL)) (ev_A (eva_p (ev_I (eL eZ) x18) (eva_nil (rf_lenL)))) (rf_mod)) (fun v22 => rf_ixL)) (fun v26 => eva_b (ev_A (eva_p (ev2pp (ev_I eI p_cell_here) (ev_C eI (7 : Int)) (rf_modL)) (eva_nil (rf_str)))) (fun v27 => eva_nil (rf_lst (l := ([x1, v23, v24, v25, v26, v27] : List Str)) (e := eZ)))))))))))))))))
def ty1_law  (a : Int) : R Str := (strT a).bind fun v13 => catZ (" " : Str) v13
theorem hy1_law  (a : Int) : EvE [none, none, none, none, none, none, none, none, none, none, none, none, some (.im (eI a))] y1_law (ty1_law a) eZ := by
  unfold y1_law ty1_law
  exact ev2pb (ev_C eZ (" " : Str)) (ev_A (eva_p (ev_I eI a) (eva_nil (rf_str)))) (fun v13 => rf_addZ)
def tb1_law  (a : Str) (g : Unit) : TR Unit Unit Bool := TR.ob (t__law_number a) fun x20 =>
  TR.ob (t_number_told a) fun x21 =>
  TR.sq (TR.ob (cond (x20.isNone && (!x21.isNone)) (.ok true) (cond (!x20.isNone) (((t__law_whole x21).map (!·)).bind fun k22 => cond k22 (.ok true) (.ok (!decide (x21 = x20)))) (.ok false))) fun k24 => cond k24
  (.rt false)
  (.nx ())) fun g23 =>
  .nx ()
theorem hb1_law {c0 c1 c2 c3 c4 c5 c6 c7 c8 c12 : Option Sl}  (a : Str) (g : Unit) : Sim [c0, c1, c2, c3, c4, c5, c6, c7, c8, some (.im (eZ a)), none, none, c12] b1_law (tb1_law a g) (fun g : Unit => [c0, c1, c2, c3, c4, c5, c6, c7, c8, none, none, none, c12]) (fun g : Unit => [c0, c1, c2, c3, c4, c5, c6, c7, c8, none, none, none, c12]) keT eB := by
  unfold b1_law tb1_law
  exact sim_setb (kpT) (ev_A (eva_p (ev_I eZ a) (eva_nil (h__law_number a)))) (fun x20 => sim_setb (kpT) (ev_A (eva_p (ev_I eZ a) (eva_nil (h_number_told a)))) (fun x21 => sim_last (sim_seq (out1 := (fun g23 : Unit => [c0, c1, c2, c3, c4, c5, c6, c7, c8, some (.im (eZ a)), some (.im ((eO eI) x20)), some (.im ((eO eI) x21)), c12])) (sim_ifb (kpT) (ev_or (ev_andp (ev2pp (ev_I (eO eI) x20) (ev_C eN ()) (rf_isO nnI)) (ev2pp (ev_I (eO eI) x21) (ev_C eN ()) (rf_isn (rf_isO nnI)))) (ev_and (ev2pp (ev_I (eO eI) x20) (ev_C eN ()) (rf_isn (rf_isO nnI))) (ev_orb (ev_notb (ev_A (eva_p (ev_I (eO eI) x21) (eva_nil (h__law_whole x21))))) (ev2pp (ev_I (eO eI) x21) (ev_I (eO eI) x20) (rf_ne plOI))))) (sim_ret (ev_C eB false)) (sim_next (x := ()) [true, true, true, true, true, true, true, true, true, true, true, true, true] rfl)) (fun g23 => sim_next (x := ()) [true, true, true, true, true, true, true, true, true, false, false, false, true] rfl))))
def tb2_law  (a : Int) (g : Unit) : TR Unit Unit Bool := TR.sq (TR.ob ((t__law_words a).bind fun v19 => .ok v19) fun l27 => forT (tb1_law) l27 ()) fun g25 =>
  .nx ()
theorem hb2_law {c0 c1 c2 c3 c4 c5 c6 c7 c12 : Option Sl}  (a : Int) (g : Unit) : Sim [c0, c1, c2, c3, c4, c5, c6, c7, some (.im (eI a)), none, none, none, c12] b2_law (tb2_law a g) (fun g : Unit => [c0, c1, c2, c3, c4, c5, c6, c7, none, none, none, none, c12]) (fun g : Unit => [c0, c1, c2, c3, c4, c5, c6, c7, none, none, none, none, c12]) keT eB := by
  unfold b2_law tb2_law
  exact sim_last (sim_seq (sim_forb (e1 := eZ) (kpT) (tb1_law) (fun g25 : Unit => [c0, c1, c2, c3, c4, c5, c6, c7, some (.im (eI a)), none, none, none, c12]) [true, true, true, true, true, true, true, true, true, false, false, false, true] (ev1b (ev_Ls (ev_A (eva_p (ev_I eI a) (eva_nil (h__law_words a))))) (fun v19 => rf_seqL)) (fun a26 g25 => ⟨_, evt_N, hb1_law a26 g25⟩) rfl) (fun g25 => sim_next (x := ()) [true, true, true, true, true, true, true, true, false, false, false, false, true] rfl))
def t_law (p_script : List Int) : R Bool := TR.out (Γ := Unit) (TR.ob (t__law_drawn p_script) fun x1 =>
  TR.ob (mkW x1.1 x1.2) fun x2 =>
  TR.ob (t_web_text x2) fun x3 =>
  TR.ob (cond (!true) (.ok true) ((t__law_text x1.1 x1.2).bind fun v4 => (eqZ x3 v4).map (!·))) fun k33 => cond k33
  (TR.up (.rt false))
  (TR.ob (t_read_web x3) fun x5 =>
  TR.ob (((t__law_is_web x5 x1.1 x1.2).map (!·)).bind fun k7 => cond k7 (.ok true) ((t_web_text x5).bind fun v6 => (eqZ v6 x3).map (!·))) fun k32 => cond k32
  (TR.up (.rt false))
  (TR.ob ((((t__law_cell p_script (0 : Int)).bind fun v8 => .ok (v8 / (2460 : Int))).bind fun v9 => .ok (v9 % (2 : Int))).bind fun v10 => t__law_amounts p_script (x1.2.length : Int) v10) fun x11 =>
  TR.ob (t_flow_text x11) fun x12 =>
  TR.ob (cond (!true) (.ok true) ((((fLcT (fun _ => .ok true) (ty1_law) x11).bind fun v15 => catT ([("flow" : Str)] : List Str) v15).bind fun v16 => joinT ("" : Str) v16).bind fun v17 => (eqZ x12 v17).map (!·))) fun k31 => cond k31
  (TR.up (.rt false))
  (TR.sq (TR.ob ((catT ([(0 : Int)] : List Int) (cutL p_script none (some (40 : Int)))).bind fun v18 => .ok v18) fun l30 => forT (tb2_law) l30 ()) fun g28 =>
  .rt true)))) .no
theorem h_law (p_script : List Int) : RefR (m_law [eR p_script]) (t_law p_script) eB := by
  unfold t_law
  refine ref_def (n := n_law.length) (fl := [true]) (g := g_law) (out := fun _ => [none, none, none, none, none, none, none, none, none, none, none, none, none]) (c := [some (.im (eR p_script)), none, none, none, none, none, none, none, none, none, none, none, none]) rfl (.som (.non (.non (.non (.non (.non (.non (.non (.non (.non (.non (.non (.non .nil))))))))))))) ?_ (.inr rfl)
  unfold g_law
  exact sim_unpb (kpT) (ev_A (eva_p (ev_I eR p_script) (eva_nil (h__law_drawn p_script)))) (fun x1 => evt_T rfl (evts_cons (evt_N) (evts_cons (evt_N) (evts_nil)))) (fun x1 => sim_setb (kpT) (ev_lfD (ev_A (eva_p (ev_I eI x1.1) (eva_p (ev_Ls (ev_A (eva_p (ev_I (eL (eP eI eI)) x1.2) (eva_nil (rf_listL))))) (eva_nil (rf_webL))))) lfW) (fun x2 => sim_setb (kpT) (ev_A (eva_p (ev_I eW x2) (eva_nil (h_web_text x2)))) (fun x3 => sim_guardb (kpT) (out1 := fun x => nomatch x) (ev_or (ev_not (ev1p (ev_I eZ x3) (rf_is (e := eZ) (x := x3) (fun _ => rfl)))) (ev2pb (ev_I eZ x3) (ev_A (eva_p (ev_I eI x1.1) (eva_p (ev_I (eL (eP eI eI)) x1.2) (eva_nil (h__law_text x1.1 x1.2))))) (fun v4 => rf_neZ))) (sim_ret (ev_C eB false)) (sim_setb (kpT) (ev_A (eva_p (ev_I eZ x3) (eva_nil (h_read_web x3)))) (fun x5 => sim_guardb (kpT) (out1 := fun x => nomatch x) (ev_orb (ev_notb (ev_A (eva_p (ev_I eW x5) (eva_p (ev_I eI x1.1) (eva_p (ev_I (eL (eP eI eI)) x1.2) (eva_nil (h__law_is_web x5 x1.1 x1.2))))))) (ev2bp (ev_A (eva_p (ev_I eW x5) (eva_nil (h_web_text x5)))) (ev_I eZ x3) (fun v6 => rf_neZ))) (sim_ret (ev_C eB false)) (sim_setb (kpT) (ev_Ls (ev_A (eva_p (ev_I eR p_script) (eva_p (ev_A (eva_p (ev_I (eL (eP eI eI)) x1.2) (eva_nil (rf_lenL)))) (eva_b (ev2bp (ev2bp (ev_A (eva_p (ev_I eR p_script) (eva_p (ev_C eI (0 : Int)) (eva_nil (h__law_cell p_script (0 : Int)))))) (ev_C eI (2460 : Int)) (fun v8 => rf_fdivL)) (ev_C eI (2 : Int)) (fun v9 => rf_modL)) (fun v10 => eva_nil (h__law_amounts p_script (x1.2.length : Int) v10))))))) (fun x11 => sim_setb (kpT) (ev_A (eva_p (ev_Ls (ev_A (eva_p (ev_I (eL eI) x11) (eva_nil (rf_listL))))) (eva_nil (h_flow_text x11)))) (fun x12 => sim_guardb (kpT) (out1 := fun x => nomatch x) (ev_or (ev_not (ev1p (ev_I eZ x12) (rf_is (e := eZ) (x := x12) (fun _ => rfl)))) (ev2pb (ev_I eZ x12) (ev2pb (ev1p (ev_C eZ ("" : Str)) (rf_zs)) (ev_Ls (ev2pb (ev_Ls (ev_A (eva_p (ev_C eZ ("flow" : Str)) (eva_nil (rf_lst (l := ([("flow" : Str)] : List Str)) (e := eZ)))))) (ev_Ls (ev_lcp (ea := eI) (eb := eZ) (tst := (fun _ => .ok true)) (y := (ty1_law)) (ev1p (ev_I (eL eI) x11) (rf_seqL)) (fun a14 => ⟨_, evt_N, ev_C eB true, ev_w [false, false, false, false, false, false, false, false, false, false, false, false, true] (hy1_law a14)⟩))) (fun v15 => rf_cat))) (fun v16 => rf_join)) (fun v17 => rf_neZ))) (sim_ret (ev_C eB false)) (sim_seq (sim_forb (e1 := eI) (kpT) (tb2_law) (fun g28 : Unit => [some (.im (eR p_script)), some (.im (eI x1.1)), some (.im ((eL (eP eI eI)) x1.2)), some (.im (eW x2)), some (.im (eZ x3)), some (.im (eW x5)), some (.im ((eL eI) x11)), some (.im (eZ x12)), none, none, none, none, none]) [true, true, true, true, true, true, true, true, false, false, false, false, false] (ev1b (ev_Ls (ev2pp (ev_Ls (ev_A (eva_p (ev_C eI (0 : Int)) (eva_nil (rf_lst (l := ([(0 : Int)] : List Int)) (e := eI)))))) (ev_Ls (ev_slp (ev_I eR p_script) (evo_N) (evo_S (ev_C eI (40 : Int))) rf_slR)) (rf_cat))) (fun v18 => rf_seqL)) (fun a29 g28 => ⟨_, evt_N, hb2_law a29 g28⟩) rfl) (fun g28 => sim_ret (ev_C eB true)))))))))))
end BW.Wk
namespace BW.Wk
open PySem PySem.Spec PyProof.Rows L2
/-! the script's cells; a web drawn -/
def cellI (ns : List Int) (k : Int) : Int := ns.getD k.toNat 0
theorem cell_t {ns : List Int} {k : Int} (h : 0 ≤ k) : t__law_cell ns k = .ok (cellI ns k) := by
  obtain ⟨j, rfl⟩ := Int.eq_ofNat_of_zero_le h
  unfold t__law_cell cellI
  by_cases hj : j < ns.length
  · have e : ixT ns (j : Int) = .ok ns[j] := ixT_nat hj
    simp [hj, e]
  · simp [hj]
def inM (m : Int) (t : Int × Int) : Prop := 0 ≤ t.1 ∧ t.1 < m ∧ 0 ≤ t.2 ∧ t.2 < m
theorem small_m {m : Int} (h0 : 1 ≤ m) (h : m ≤ 20) : smallI m = true := smallI_of (by omega) (by omega)
theorem mod_small (a : Int) {j : Int} (h0 : 0 < j) (h : j < 2 ^ 64) : smallI (a % j) = true := by
  have h1 := Int.emod_nonneg a (b := j) (by omega)
  have h2 := Int.emod_lt_of_pos a h0
  exact smallI_of (by omega) (by omega)
/-- a web as the law draws it -/
structure Wb (m : Int) (ts : List (Int × Int)) : Prop where
  lo : 1 ≤ m
  hi : m ≤ 20
  len : ts.length ≤ 40
  ins : ∀ t ∈ ts, inM m t
theorem Wb.mk' {m : Int} {ts : List (Int × Int)} (h : Wb m ts) : mkW m ts = .ok ⟨m, ts⟩ := mkW_ok h.lo h.hi h.len h.ins
end BW.Wk
namespace BW.Wk
open PySem PySem.Spec PyProof.Rows L2
theorem ends_step (ns : List Int) (m w : Int) (k : Nat) (g : List (Int × Int) × Int) (hl : g.1.length < 16777216) (h0 : 1 ≤ m) (hm : m ≤ 20) :
    ∃ (t : Int × Int) (r : Int), inM m t ∧ tb1__law_ends ns m w (k : Int) g = .nx (g.1 ++ [t], r) := by
  unfold tb1__law_ends
  have p0 : (0 : Int) < m := by omega
  have p1 : m ≤ 1000000000000000000000000000000000000000000000000000000000000 := by omega
  have p2 : 0 < m * m := Int.mul_pos (by omega) (by omega)
  have p3 : m * m ≤ 1000000000000000000000000000000000000000000000000000000000000 := by
    have : m * m ≤ 20 * 20 := Int.mul_le_mul hm hm (by omega) (by omega)
    omega
  have s1 := small_m h0 hm
  have s4 : ∀ a : Int, smallI (a % 1000000007) = true := fun a => mod_small a (by decide) (by decide)
  have c : t__law_cell ns (2 + (k : Int)) = _ := cell_t (by omega)
  have hin : ∀ x : Int, inM m (x % m, x / m % m) := fun x => ⟨Int.emod_nonneg _ (by omega), Int.emod_lt_of_pos _ p0, Int.emod_nonneg _ (by omega), Int.emod_lt_of_pos _ p0⟩
  by_cases h1 : w = 1
  · exact ⟨_, _, hin (g.2 % (m * m)), by simp [c, h1, p0, p1, p2, p3, s1, hl]; exact rfl⟩
  · by_cases h2 : w = 2
    · exact ⟨_, _, hin _, by simp [c, h2, p0, p1, s4, hl]; exact ⟨⟨rfl, rfl⟩, rfl⟩⟩
    · exact ⟨_, _, hin (cellI ns (2 + (k : Int))), by simp [c, h1, h2, p0, p1, hl]; exact rfl⟩
theorem ends_t {ns : List Int} {m c w : Int} (h0 : 1 ≤ m) (hm : m ≤ 20) (hc0 : 0 ≤ c) (hc : c ≤ 1000) : ∃ ts : List (Int × Int), t__law_ends ns m c w = .ok ts ∧ (ts.length : Int) = c ∧ ∀ t ∈ ts, inM m t := by
  obtain ⟨n, rfl⟩ := Int.eq_ofNat_of_zero_le hc0
  unfold t__law_ends
  have step : ∀ r : Int, ∃ (ts : List (Int × Int)) (r' : Int), (forT (tb1__law_ends ns m w) (rangeI 0 n) ([], r) : TR Empty _ _) = .nx (ts, r') ∧ ts.length = n ∧ ∀ t ∈ ts, inM m t := by
    intro r
    obtain ⟨⟨ts, r'⟩, h1, h2, h3⟩ := forT_rgI (Λ := Empty) (b := tb1__law_ends ns m w) (n := n) (g0 := ([], r)) (fun i g => g.1.length = i ∧ ∀ t ∈ g.1, inM m t) (by
      rintro i ⟨l, r⟩ hi ⟨h2, h3⟩
      obtain ⟨t, r', ht, h⟩ := ends_step ns m w i (l, r) (by show l.length < _; have : l.length = i := h2; omega) h0 hm
      refine ⟨_, .inl h, by simp; exact h2, fun t' ht' => ?_⟩
      rcases List.mem_append.mp ht' with h | h
      · exact h3 t' h
      · rw [List.mem_singleton.mp h]; exact ht) ⟨rfl, fun t ht => by cases ht⟩
    exact ⟨ts, r', h1, h2, h3⟩
  have e : rangeT (n : Int) = .ok (rangeI 0 n) := rangeT_nat (by omega)
  by_cases hw : w = 2
  · obtain ⟨ts, r', h1, h2, h3⟩ := step (cellI ns 1 % 1000000007)
    exact ⟨ts, by simp [cell_t, hw, e] ; rw [hw] at h1; rw [h1]; rfl, by rw [h2], h3⟩
  · obtain ⟨ts, r', h1, h2, h3⟩ := step (cellI ns 1)
    exact ⟨ts, by simp [cell_t, hw, e, h1], by rw [h2], h3⟩
theorem drawn_t (ns : List Int) : ∃ (m : Int) (ts : List (Int × Int)), t__law_drawn ns = .ok (m, ts) ∧ Wb m ts := by
  unfold t__law_drawn
  have key : ∀ f : Int, ∃ (ts : List (Int × Int)), t__law_ends ns (1 + f % 20) (f / 60 % 41) (f / 20 % 3) = .ok ts ∧ Wb (1 + f % 20) ts := by
    intro f
    have h1 : 1 ≤ 1 + f % 20 := by omega
    have h2 : 1 + f % 20 ≤ 20 := by omega
    obtain ⟨ts, h3, h4, h5⟩ := ends_t (ns := ns) (w := f / 20 % 3) h1 h2 (c := f / 60 % 41) (by omega) (by omega)
    exact ⟨ts, h3, ⟨h1, h2, by omega, h5⟩⟩
  have s4 : ∀ a : Int, smallI (a % 2147483647) = true := fun a => mod_small a (by decide) (by decide)
  by_cases h : cellI ns 0 % 2 = 1
  · obtain ⟨ts, h1, w⟩ := key (((cellI ns 0 % 1000000007 * 48271 + 11) % 2147483647) * ((cellI ns 0 % 1000000007 * 48271 + 11) % 2147483647) % 998244353)
    exact ⟨_, ts, by simp [cell_t, h, s4, h1], w⟩
  · obtain ⟨ts, h1, w⟩ := key (cellI ns 0)
    exact ⟨_, ts, by simp [cell_t, h, h1], w⟩
end BW.Wk
namespace BW.Wk
open PySem PySem.Spec PyProof.Rows L2
/-! amounts drawn -/
theorem amt_step (ns : List Int) (w : Int) (k : Nat) (g : List Int × Int) (hl : g.1.length < 16777216) : ∃ (a r : Int), a.natAbs < 10 ^ 39 ∧ tb1__law_amounts ns w (k : Int) g = .nx (g.1 ++ [a], r) := by
  unfold tb1__law_amounts
  have c : t__law_cell ns (2 + (k : Int)) = _ := cell_t (by omega)
  have key : ∀ x r : Int, ∃ (a r' : Int), a.natAbs < 10 ^ 39 ∧ (TR.ob (.ok ((x / (3 : Int)) % ((10 : Int) ^ (39 : Nat)))) fun x4 =>
    TR.sq (cond (decide (x % (3 : Int) = (1 : Int)))
    (.nx (-x4))
    (.nx x4)) fun g5 =>
    TR.sq (cond (decide (x % (3 : Int) = (2 : Int)))
    (TR.ob (.ok ((g5 % (3 : Int)) - (1 : Int))) fun x7 =>
    .nx x7)
    (.nx g5)) fun g6 =>
    TR.ob (appT g.1 g6) fun x8 =>
    .nx (x8, r) : TR ((List Int) × Int) ((List Int) × Int) (List Int)) = .nx (g.1 ++ [a], r') := by
    intro x r
    have p0 : (0 : Int) ≤ x / 3 % 10 ^ 39 := Int.emod_nonneg _ (by decide)
    have p1 : x / 3 % 10 ^ 39 < 10 ^ 39 := Int.emod_lt_of_pos _ (by decide)
    by_cases h1 : x % 3 = 1
    · exact ⟨-(x / 3 % 10 ^ 39), r, by omega, by simp [h1, hl]⟩
    · by_cases h2 : x % 3 = 2
      · exact ⟨x / 3 % 10 ^ 39 % 3 - 1, r, by omega, by simp [h2, hl]⟩
      · exact ⟨x / 3 % 10 ^ 39, r, by omega, by simp [h1, h2, hl]⟩
  by_cases h1 : w = 1
  · obtain ⟨a, r, h2, h3⟩ := key (g.2 % 30) (g.2 / 30)
    exact ⟨a, r, h2, by rw [c, ob_ok, h1]; exact h3⟩
  · obtain ⟨a, r, h2, h3⟩ := key (cellI ns (2 + (k : Int))) g.2
    refine ⟨a, r, h2, ?_⟩
    rw [c, ob_ok, decide_eq_false h1]
    exact h3
theorem amounts_t {ns : List Int} {c w : Int} (hc0 : 0 ≤ c) (hc : c ≤ 1000) : ∃ l : List Int, t__law_amounts ns c w = .ok l ∧ (l.length : Int) = c ∧ ∀ a ∈ l, a.natAbs < 10 ^ 39 := by
  obtain ⟨n, rfl⟩ := Int.eq_ofNat_of_zero_le hc0
  unfold t__law_amounts
  obtain ⟨⟨l, r'⟩, h1, h2, h3⟩ := forT_rgI (Λ := Empty) (b := tb1__law_amounts ns w) (n := n) (g0 := ([], cellI ns 1)) (fun i g => g.1.length = i ∧ ∀ a ∈ g.1, a.natAbs < 10 ^ 39) (by
    rintro i ⟨l, r⟩ hi ⟨h2, h3⟩
    obtain ⟨a, r', ht, h⟩ := amt_step ns w i (l, r) (by show l.length < _; have : l.length = i := h2; omega)
    refine ⟨_, .inl h, by simp; exact h2, fun t' ht' => ?_⟩
    rcases List.mem_append.mp ht' with h | h
    · exact h3 t' h
    · rw [List.mem_singleton.mp h]; exact ht) ⟨rfl, fun t ht => by cases ht⟩
  have e : rangeT (n : Int) = .ok (rangeI 0 n) := rangeT_nat (by omega)
  exact ⟨l, by simp [cell_t, e, h1], by have : l.length = n := h2; omega, h3⟩
end BW.Wk
namespace BW.Wk
open PySem PySem.Spec PyProof.Rows L2
/-! texts as lists of signs -/
abbrev Z (l : List Nat) : Str := SX.S l
def AS (l : List Nat) : Prop := ∀ c ∈ l, c < 128
theorem AS.app {a b : List Nat} (h : AS a) (k : AS b) : AS (a ++ b) := fun c hc => (List.mem_append.mp hc).elim (h c) (k c)
theorem AS.sub {a b : List Nat} (h : AS b) (k : ∀ c ∈ a, c ∈ b) : AS a := fun c hc => h c (k c hc)
theorem as_dec {l : List Nat} (h : l.all (fun c => decide (c < 128)) = true) : AS l := fun c hc => of_decide_eq_true (List.all_eq_true.mp h c hc)
theorem strOk_Z {l : List Nat} (h : AS l) : PyData.strOk (Z l) = true := by
  show (Z l).cps.all (· < 0x110000) = true
  rw [← Array.all_toList]
  exact List.all_eq_true.mpr fun c hc => decide_eq_true (by have := h c hc; omega)
theorem eqZ_t {a b : List Nat} (h : AS a) (k : AS b) : eqZ (Z a) (Z b) = .ok (decide (a = b)) := by
  rw [eqZ_lit (strOk_Z h) (strOk_Z k)]
  congr 1
  by_cases c : a = b
  · subst c; simp
  · rw [decide_eq_false c, decide_eq_false fun z => c (SX.S_inj z)]
theorem Z_len (l : List Nat) : (Z l).length = l.length := SX.S_len l
theorem catZ_t {a b : List Nat} (h : a.length + b.length ≤ 16777216) : catZ (Z a) (Z b) = .ok (Z (a ++ b)) := by
  unfold catZ
  rw [if_pos (by rw [Z_len, Z_len]; exact h), SX.S_cat]
theorem slZ_to {l : List Nat} {k : Int} (h : l.length ≤ 16777216) (hk : 0 ≤ k) : slZ (Z l) none (some k) = .ok (Z (l.take k.toNat)) := by
  unfold slZ
  rw [if_pos (by rw [Z_len]; exact h), C8.cutS_slice, SX.slice_to hk]
theorem slZ_from {l : List Nat} {k : Int} (h : l.length ≤ 16777216) (hk : 0 ≤ k) : slZ (Z l) (some k) none = .ok (Z (l.drop k.toNat)) := by
  unfold slZ
  rw [if_pos (by rw [Z_len]; exact h), C8.cutS_slice, SX.slice_from hk]
theorem lenZ_t {l : List Nat} (h : l.length ≤ 16777216) : lenZ (Z l) = .ok (l.length : Int) := by
  unfold lenZ
  rw [if_pos (by rw [Z_len]; exact h), Z_len]
theorem ixZ_t {c : Nat} {l : List Nat} (h : (c :: l).length ≤ 16777216) : ixZ (Z (c :: l)) 0 = .ok (Z [c]) := by
  unfold ixZ
  rw [if_pos (by rw [Z_len]; exact h)]
  show (match atI (c :: l) ((0 : Nat) : Int) with | some c => R.ok (⟨#[c]⟩ : Str) | none => .no) = _
  rw [atI_nat (show (c :: l)[0]? = some c from rfl)]
theorem signsT_t (l : List Nat) : signsT (Z l) = l.map fun c => Z [c] := rfl
theorem inZ_t (c : Nat) (l : List Nat) : inZ (Z [c]) (Z l) = decide (c ∈ l) := PySem.StrLaws.found_one (Z l) c
theorem splitT_t {a : List Nat} {s : Nat} (h : a.length + 2 ≤ 16777216) (hs : s < 256) : splitT (Z a) (Z [s]) = .ok ((TL.spl [s] 0 [] a).map Z) := by
  rw [splitT_ok ⟨rfl, by rw [Z_len]; exact h⟩, SX.split_S (by simp) (by simp [hs])]
theorem joinT_t {a : List Nat} {ys : List (List Nat)} (h : (ys.map List.length).sum + ys.length * a.length ≤ 16777216) : joinT (Z a) (ys.map Z) = .ok (Z (TL.joinL a ys)) := by
  rw [joinT_ok, SX.join_S]
  rw [List.map_map, List.length_map, Z_len]
  have : (Str.length ∘ Z) = List.length := funext fun l => Z_len l
  rw [this]
  exact h
/-! numbers as texts -/
def numZ (i : Int) : List Nat := if i < 0 then 45 :: TL.numL i.natAbs else TL.numL i.natAbs
theorem numL_as (n : Nat) : AS (TL.numL n) := fun c hc => by have := TL.numL_digits n c hc; omega
theorem numZ_as (i : Int) : AS (numZ i) := by
  unfold numZ
  split
  · intro c hc
    rcases List.mem_cons.mp hc with z | z
    · omega
    · exact numL_as _ c z
  · exact numL_as _
theorem tl_int (i : Int) : (Str.ofString (toString i)).cps.toList = numZ i := by
  unfold numZ
  cases i with
  | ofNat n =>
    rw [if_neg (by show ¬ ((n : Int) < 0); omega)]
    exact TL.tl_num n
  | negSucc m =>
    rw [if_pos (Int.negSucc_lt_zero m)]
    have e : toString (Int.negSucc m) = "-" ++ Nat.repr (m + 1) := rfl
    have e0 : (Str.ofString ("-" ++ Nat.repr (m + 1))).cps.toList = ("-" ++ Nat.repr (m + 1)).toList.map Char.toNat := TL.tl_ofString _
    rw [e, e0, String.toList_append, List.map_append]
    have h := (TL.tl_ofString (toString (((m + 1 : Nat)) : Int))).symm.trans (TL.tl_num (m + 1))
    have h : (Nat.repr (m + 1)).toList.map Char.toNat = TL.numL (m + 1) := h
    rw [h]
    rfl
theorem str_Z (i : Int) : Str.ofString (toString i) = Z (numZ i) := by
  rw [← tl_int i]
theorem strT_t {i : Int} (h : i.natAbs < 10 ^ 80) : strT i = .ok (Z (numZ i)) := by
  unfold strT
  rw [if_pos (log2_lt_pow (by omega) (Nat.lt_trans h (by decide +kernel)))]
  exact congrArg R.ok (str_Z i)
theorem numL_head : ∀ n : Nat, (TL.numL n).take 1 = [48] → n = 0 := by
  intro n
  induction n using Nat.strongRecOn with
  | _ n ih =>
    intro h
    by_cases c : n < 10
    · rw [TL.numL_lt c] at h
      have : 48 + n = 48 := by simpa using h
      omega
    · rw [TL.numL_step (by omega)] at h
      have hne := TL.numL_ne (n / 10)
      have hl : 1 ≤ (TL.numL (n / 10)).length := List.length_pos_iff.mpr hne
      rw [List.take_append_of_le_length hl] at h
      have := ih (n / 10) (by omega) h
      omega
theorem numL_small {n : Nat} (h : n < 10 ^ 60) : (TL.numL n).length ≤ 60 := TL.numL_len (by decide) h
theorem numZ_len {i : Int} (h : i.natAbs < 10 ^ 60) : (numZ i).length ≤ 61 := by
  have := numL_small h
  unfold numZ
  split
  · rw [List.length_cons]; omega
  · omega
/-- what is read of a word -/
def bodyL (l : List Nat) : List Nat := if l.take 1 = [45] then l.drop 1 else l
def digB (c : Nat) : Bool := decide (c ∈ [48, 49, 50, 51, 52, 53, 54, 55, 56, 57])
theorem digB_iff {c : Nat} : digB c = true ↔ 48 ≤ c ∧ c ≤ 57 := by
  unfold digB
  rw [decide_eq_true_eq]
  simp only [List.mem_cons, List.not_mem_nil, or_false]
  omega
def numOf (l : List Nat) : Option Int :=
  if bodyL l = [] ∨ 60 < (bodyL l).length ∨ l = [45, 48] then none
  else if (bodyL l).take 1 = [48] ∧ 1 < (bodyL l).length then none
  else if (bodyL l).any (fun c => !digB c) = true then none else intText? (Z l)
theorem good_int {l : List Nat} (hl : l.length ≤ 600) (h0 : bodyL l ≠ []) (h1 : ∀ c ∈ bodyL l, digB c = true) : ∃ n, intText? (Z l) = some n := by
  unfold bodyL at h0 h1
  by_cases c : l.take 1 = [45]
  · rw [if_pos c] at h0 h1
    cases l with
    | nil => simp at c
    | cons a r =>
      have ha : a = 45 := by simpa using c
      subst ha
      exact ⟨_, PySem.intText_neg (x := Z (45 :: r)) (cs := r) rfl (fun c hc => digB_iff.mp (h1 c hc)) h0 (by rw [Z_len]; omega)⟩
  · rw [if_neg c] at h0 h1
    exact ⟨_, PySem.intText_digits (x := Z l) (fun c hc => digB_iff.mp (h1 c hc)) h0 (by rw [Z_len]; omega)⟩
theorem numOf_int {i : Int} (h : i.natAbs < 10 ^ 60) : numOf (numZ i) = some i := by
  have hb : bodyL (numZ i) = TL.numL i.natAbs := by
    unfold bodyL numZ
    by_cases c : i < 0
    · rw [if_pos c, if_pos (by rfl)]; rfl
    · rw [if_neg c, if_neg]
      intro z
      have : 45 ∈ TL.numL i.natAbs := List.mem_of_mem_take (by rw [z]; exact List.mem_singleton_self _)
      exact TL.numL_free (by omega) this
  have hn := TL.numL_ne i.natAbs
  have hl := numL_small h
  have hd := TL.numL_digits i.natAbs
  unfold numOf
  rw [hb, if_neg, if_neg, if_neg]
  · unfold numZ
    by_cases c : i < 0
    · rw [if_pos c, PySem.intText_neg (x := Z (45 :: TL.numL i.natAbs)) (cs := TL.numL i.natAbs) rfl hd hn (by rw [Z_len, List.length_cons]; omega), TL.numL_val]
      congr 1
      omega
    · rw [if_neg c, PySem.intText_digits (x := Z (TL.numL i.natAbs)) hd hn (by rw [Z_len]; omega), show (Z (TL.numL i.natAbs)).cps.toList = TL.numL i.natAbs from rfl, TL.numL_val]
      congr 1
      omega
  · intro z
    obtain ⟨c, hc, h2⟩ := List.any_eq_true.mp z
    rw [digB_iff.mpr (hd c hc)] at h2
    cases h2
  · rintro ⟨z1, z2⟩
    have := numL_head _ z1
    rw [this, TL.numL_lt (by decide)] at z2
    simp at z2
  · rintro (z | z | z)
    · exact hn z
    · omega
    · unfold numZ at z
      by_cases c : i < 0
      · rw [if_pos c] at z
        have z : TL.numL i.natAbs = [48] := by simpa using z
        have := numL_head i.natAbs (by rw [z]; rfl)
        omega
      · rw [if_neg c] at z
        exact TL.numL_free (n := i.natAbs) (s := 45) (by omega) (by rw [z]; simp)
theorem z_minus : ("-" : Str) = Z [45] := by decide +kernel
theorem z_none : ("" : Str) = Z [] := by decide +kernel
theorem z_m0 : ("-0" : Str) = Z [45, 48] := by decide +kernel
theorem z_0 : ("0" : Str) = Z [48] := by decide +kernel
theorem z_dig : ("0123456789" : Str) = Z [48, 49, 50, 51, 52, 53, 54, 55, 56, 57] := by decide +kernel
theorem z_blank : (" " : Str) = Z [32] := by decide +kernel
theorem z_nl : ("\n" : Str) = Z [10] := by decide +kernel
theorem z_tie : ("tie " : Str) = Z [116, 105, 101, 32] := by decide +kernel
theorem z_tie0 : ("tie" : Str) = Z [116, 105, 101] := by decide +kernel
theorem z_pl : ("places " : Str) = Z [112, 108, 97, 99, 101, 115, 32] := by decide +kernel
theorem z_pl0 : ("places" : Str) = Z [112, 108, 97, 99, 101, 115] := by decide +kernel
theorem z_flow : ("flow" : Str) = Z [102, 108, 111, 119] := by decide +kernel
theorem body_len (l : List Nat) : (bodyL l).length ≤ l.length := by
  unfold bodyL
  split
  · rw [List.length_drop]; omega
  · omega
theorem body_as {l : List Nat} (h : AS l) : AS (bodyL l) := by
  unfold bodyL
  split
  · exact h.sub fun c hc => List.mem_of_mem_drop hc
  · exact h
theorem nsigns (l : List Nat) : (forT tb1_number_told (signsT (Z l)) () : TR Empty Unit (Option Int)) = cond (l.any fun c => !digB c) (.rt none) (.nx ()) := by
  rw [signsT_t]
  have k := forT_seek (Λ := Empty) (b := tb1_number_told) (l := l.map fun c => Z [c]) (g0 := ()) (d := (none : Option Int)) (fun z => !(inZ z ("0123456789" : Str))) (fun z _ => by
    unfold tb1_number_told
    cases h : !(inZ z ("0123456789" : Str)) with
    | true => exact .inl ⟨rfl, by simp only [cond_true]; rfl⟩
    | false => exact .inr ⟨rfl, .inl (by simp only [cond_false, tsq_nx])⟩)
  rw [k, List.any_map]
  congr 1
  refine congrArg (fun f => l.any f) (funext fun c => ?_)
  show (!(inZ (Z [c]) ("0123456789" : Str))) = !digB c
  rw [z_dig, inZ_t]
  rfl
theorem number_told_t {l : List Nat} (ha : AS l) (hl : l.length ≤ 600) : t_number_told (Z l) = .ok (numOf l) := by
  have s1 : slZ (Z l) none (some 1) = .ok (Z (l.take 1)) := slZ_to (by omega) (by omega)
  have s2 : slZ (Z l) (some 1) none = .ok (Z (l.drop 1)) := slZ_from (by omega) (by omega)
  have q1 : eqZ (Z (l.take 1)) (Z [45]) = .ok (decide (l.take 1 = [45])) := eqZ_t (ha.sub fun c hc => List.mem_of_mem_take hc) (as_dec (by decide))
  have hb := body_len l
  have hba := body_as ha
  have q2 : eqZ (Z (bodyL l)) (Z []) = .ok (decide (bodyL l = [])) := eqZ_t hba (as_dec (by decide))
  have q3 : lenZ (Z (bodyL l)) = .ok ((bodyL l).length : Int) := lenZ_t (by omega)
  have q4 : eqZ (Z l) (Z [45, 48]) = .ok (decide (l = [45, 48])) := eqZ_t ha (as_dec (by decide))
  have q5 := nsigns (bodyL l)
  have e2 : ∀ k : Str → TR Empty Unit (Option Int), (TR.sq (TR.ob ((slZ (Z l) none (some (1 : Int))).bind fun v1 => eqZ v1 ("-" : Str)) fun k15 => cond k15 (TR.ob (slZ (Z l) (some (1 : Int)) none) fun x3 => .nx x3) (.nx (Z l))) k : TR Empty Unit (Option Int)) = k (Z (bodyL l)) := fun k => by
    unfold bodyL
    by_cases c : l.take 1 = [45]
    · rw [if_pos c]; simp only [z_minus, s1, r_bind_ok, q1, decide_eq_true c, ob_ok, cond_true, s2, tsq_nx]
    · rw [if_neg c]; simp only [z_minus, s1, r_bind_ok, q1, decide_eq_false c, ob_ok, cond_false, tsq_nx]
  unfold t_number_told numOf
  rw [e2]
  simp only [z_none, z_m0, z_0, q2, r_bind_ok, q3, q4]
  by_cases c1 : bodyL l = []
  · rw [if_pos (.inl c1)]
    simp only [decide_eq_true c1, cond_true, ob_ok]
    rfl
  · by_cases c2 : 60 < (bodyL l).length
    · rw [if_pos (.inr (.inl c2))]
      simp only [decide_eq_false c1, cond_false, decide_eq_true (show (60 : Int) < ((bodyL l).length : Int) by omega), cond_true, ob_ok]
      rfl
    · by_cases c3 : l = [45, 48]
      · rw [if_pos (.inr (.inr c3))]
        simp only [decide_eq_false c1, cond_false, decide_eq_false (show ¬ (60 : Int) < ((bodyL l).length : Int) by omega), decide_eq_true c3, cond_true, ob_ok]
        rfl
      · rw [if_neg (by rintro (z | z | z) <;> contradiction)]
        simp only [decide_eq_false c1, cond_false, decide_eq_false (show ¬ (60 : Int) < ((bodyL l).length : Int) by omega), decide_eq_false c3, ob_ok]
        cases hB : bodyL l with
        | nil => exact absurd hB c1
        | cons d r =>
          rw [hB] at hb hba q5
          have x1 : ixZ (Z (d :: r)) 0 = .ok (Z [d]) := ixZ_t (by omega)
          have x2 : eqZ (Z [d]) (Z [48]) = .ok (decide ([d] = [48])) := eqZ_t (hba.sub fun c hc => by rw [List.mem_singleton.mp hc]; exact List.mem_cons_self) (as_dec (by decide))
          have x3 : lenZ (Z (d :: r)) = .ok ((d :: r).length : Int) := lenZ_t (by omega)
          simp only [x1, r_bind_ok, x2, x3]
          have fin : ∀ h : ¬ ((d :: r).take 1 = [48] ∧ 1 < (d :: r).length), TR.out (Γ := Unit) (TR.sq (forT (tb1_number_told) (signsT (Z (d :: r))) ()) fun g11 => TR.ob ((intZ (Z l)).map fun x => some x) .rt) .no = .ok (if (d :: r).take 1 = [48] ∧ 1 < (d :: r).length then none else if (d :: r).any (fun c => !digB c) = true then none else intText? (Z l)) := fun h => by
            rw [if_neg h, q5]
            by_cases a : (d :: r).any (fun c => !digB c) = true
            · rw [if_pos a, a]; rfl
            · rw [if_neg a]
              have a' : (d :: r).any (fun c => !digB c) = false := by simpa using a
              obtain ⟨n, hn⟩ := good_int (l := l) hl c1 (fun c hc => by
                rw [hB] at hc
                have := List.any_eq_false.mp a' c hc
                simpa using this)
              have i1 : intZ (Z l) = .ok n := intZ_ok (by rw [Z_len]; omega) hn
              rw [a', i1, hn]
              rfl
          by_cases c4 : [d] = [48]
          · by_cases c5 : 1 < (d :: r).length
            · rw [if_pos ⟨c4, c5⟩]
              simp only [decide_eq_true c4, cond_true, decide_eq_true (show (1 : Int) < ((d :: r).length : Int) by omega), ob_ok]
              rfl
            · simp only [decide_eq_true c4, cond_true, decide_eq_false (show ¬ (1 : Int) < ((d :: r).length : Int) by omega), ob_ok, cond_false]
              exact fin fun z => c5 z.2
          · simp only [decide_eq_false c4, cond_false, ob_ok]
            exact fin fun z => c4 z.1
end BW.Wk
namespace BW.Wk
open PySem PySem.Spec PyProof.Rows L2
/-! webs as texts -/
def wP : List Nat := [112, 108, 97, 99, 101, 115]
def wT : List Nat := [116, 105, 101]
def rowPL (m : Int) : List Nat := wP ++ [32] ++ numZ m
def rowTL (t : Int × Int) : List Nat := wT ++ [32] ++ numZ t.1 ++ [32] ++ numZ t.2
def rowsL (m : Int) (ts : List (Int × Int)) : List (List Nat) := rowPL m :: ts.map rowTL
def textL (m : Int) (ts : List (Int × Int)) : List Nat := TL.joinL [10] (rowsL m ts) ++ [10]
/-- numbers that are short -/
def sm (i : Int) : Prop := i.natAbs < 10 ^ 60
def smW (m : Int) (ts : List (Int × Int)) : Prop := sm m ∧ ∀ t ∈ ts, sm t.1 ∧ sm t.2
theorem numZ_free {i : Int} {s : Nat} (h : s ≠ 45 ∧ (s < 48 ∨ 57 < s)) : s ∉ numZ i := by
  unfold numZ
  split
  · intro z
    rcases List.mem_cons.mp z with z | z
    · exact h.1 z
    · exact TL.numL_free h.2 z
  · exact TL.numL_free h.2
theorem rowPL_as (m : Int) : AS (rowPL m) := ((as_dec (by decide)).app (as_dec (by decide))).app (numZ_as m)
theorem rowTL_as (t : Int × Int) : AS (rowTL t) := ((((as_dec (by decide)).app (as_dec (by decide))).app (numZ_as _)).app (as_dec (by decide))).app (numZ_as _)
theorem rowPL_nl (m : Int) : 10 ∉ rowPL m := by
  unfold rowPL
  rw [List.mem_append]
  rintro (z | z)
  · revert z; decide
  · exact numZ_free (by omega) z
theorem rowTL_nl (t : Int × Int) : 10 ∉ rowTL t := by
  unfold rowTL
  simp only [List.mem_append]
  rintro ((((z | z) | z) | z) | z)
  · revert z; decide
  · revert z; decide
  · exact numZ_free (by omega) z
  · revert z; decide
  · exact numZ_free (by omega) z
theorem rowPL_len {m : Int} (h : sm m) : (rowPL m).length ≤ 130 := by
  have := numZ_len h
  unfold rowPL wP
  simp only [List.length_append, List.length_cons, List.length_nil]
  omega
theorem rowTL_len {t : Int × Int} (h : sm t.1 ∧ sm t.2) : (rowTL t).length ≤ 130 := by
  have := numZ_len h.1
  have := numZ_len h.2
  unfold rowTL wT
  simp only [List.length_append, List.length_cons, List.length_nil]
  omega
theorem sum_len {B : Nat} : ∀ {l : List (List Nat)}, (∀ x ∈ l, x.length ≤ B) → (l.map List.length).sum ≤ l.length * B
  | [], _ => by simp
  | a :: l, h => by
    have ih := sum_len (l := l) fun x hx => h x (List.mem_cons_of_mem _ hx)
    have := h a List.mem_cons_self
    rw [List.map_cons, List.sum_cons, List.length_cons, Nat.succ_mul]
    omega
theorem join_len {B : Nat} (s : List Nat) : ∀ {l : List (List Nat)}, (∀ x ∈ l, x.length ≤ B) → (TL.joinL s l).length ≤ l.length * (B + s.length)
  | [], _ => by simp [TL.joinL]
  | [a], h => by
    have := h a List.mem_cons_self
    show a.length ≤ 1 * (B + s.length)
    omega
  | a :: b :: l, h => by
    have ih := join_len s (l := b :: l) fun x hx => h x (List.mem_cons_of_mem _ hx)
    have := h a List.mem_cons_self
    show (a ++ (s ++ TL.joinL s (b :: l))).length ≤ _
    rw [List.length_append, List.length_append, List.length_cons (a := a), Nat.succ_mul]
    omega
theorem join_as {s : List Nat} (hs : AS s) : ∀ {l : List (List Nat)}, (∀ x ∈ l, AS x) → AS (TL.joinL s l)
  | [], _ => fun c hc => by cases hc
  | [a], h => h a List.mem_cons_self
  | a :: b :: l, h => (h a List.mem_cons_self).app (hs.app (join_as hs fun x hx => h x (List.mem_cons_of_mem _ hx)))
theorem join_nl (s : List Nat) : ∀ (a : List Nat) (l : List (List Nat)), TL.joinL s (a :: l) ++ s = TL.joinL [] ((a :: l).map (· ++ s))
  | a, [] => rfl
  | a, b :: l => by
    show a ++ (s ++ TL.joinL s (b :: l)) ++ s = (a ++ s) ++ ([] ++ TL.joinL [] ((b :: l).map (· ++ s)))
    rw [← join_nl s b l]
    simp
theorem join_end (s : List Nat) : ∀ (a : List Nat) (l : List (List Nat)), TL.joinL s (a :: l) ++ s = TL.joinL s ((a :: l) ++ [[]])
  | a, [] => by show a ++ s = a ++ (s ++ []); rw [List.append_nil]
  | a, b :: l => by
    show a ++ (s ++ TL.joinL s (b :: l)) ++ s = a ++ (s ++ TL.joinL s ((b :: l) ++ [[]]))
    rw [← join_end s b l]
    simp
theorem rows_ok {m : Int} {ts : List (Int × Int)} (h : smW m ts) : ∀ x ∈ rowsL m ts, x.length ≤ 130 ∧ AS x ∧ 10 ∉ x := fun x hx => by
  rcases List.mem_cons.mp hx with z | z
  · rw [z]; exact ⟨rowPL_len h.1, rowPL_as m, rowPL_nl m⟩
  · obtain ⟨t, ht, rfl⟩ := List.mem_map.mp z
    exact ⟨rowTL_len (h.2 t ht), rowTL_as t, rowTL_nl t⟩
theorem text_ok {m : Int} {ts : List (Int × Int)} (h : smW m ts) (hl : ts.length ≤ 100) : (textL m ts).length ≤ 20000 ∧ AS (textL m ts) := by
  have h1 := join_len (B := 130) [10] (l := rowsL m ts) fun x hx => (rows_ok h x hx).1
  have h2 : (rowsL m ts).length = ts.length + 1 := by unfold rowsL; rw [List.length_cons, List.length_map]
  rw [h2] at h1
  refine ⟨?_, (join_as (as_dec (by decide)) fun x hx => (rows_ok h x hx).2.1).app (as_dec (by decide))⟩
  unfold textL
  rw [List.length_append]
  have : (ts.length + 1) * (130 + [10].length) ≤ 101 * 131 := Nat.mul_le_mul (by omega) (by decide)
  show _ + 1 ≤ _
  omega
theorem sm80 {i : Int} (h : sm i) : i.natAbs < 10 ^ 80 := Nat.lt_trans h (by decide +kernel)
theorem place_t {m : Int} (h : sm m) : ((strT m).bind fun v1 => catZ ("places " : Str) v1) = .ok (Z (rowPL m)) := by
  have := numZ_len h
  rw [strT_t (sm80 h), r_bind_ok, z_pl, catZ_t (by show 7 + _ ≤ _; omega)]
  rfl
theorem tie_t {t : Int × Int} (h : sm t.1 ∧ sm t.2) : ((((strT t.1).bind fun v5 => catZ ("tie " : Str) v5).bind fun v6 => catZ v6 (" " : Str)).bind fun v7 => (strT t.2).bind fun v8 => catZ v7 v8) = .ok (Z (rowTL t)) := by
  have h1 := numZ_len h.1
  have h2 := numZ_len h.2
  rw [strT_t (sm80 h.1), r_bind_ok, z_tie, catZ_t (by show 4 + _ ≤ _; omega), r_bind_ok, z_blank, catZ_t (by rw [List.length_append]; show 4 + _ + 1 ≤ _; omega), r_bind_ok, strT_t (sm80 h.2), r_bind_ok, catZ_t (by rw [List.length_append, List.length_append]; show 4 + _ + 1 + _ ≤ _; omega)]
  rfl
theorem web_text_t {m : Int} {ts : List (Int × Int)} (h : smW m ts) (hl : ts.length ≤ 100) : t_web_text ⟨m, ts⟩ = .ok (Z (textL m ts)) := by
  have e0 := place_t h.1
  have k := forT_st (Λ := Empty) (ρ := Str) (b := tb1_web_text) (l := ts) (fun i => (rowPL m :: (ts.take i).map rowTL).map Z) (fun i t ht => by
    have ham := List.mem_of_getElem? ht
    have e1 : appT ((rowPL m :: (ts.take i).map rowTL).map Z) (Z (rowTL t)) = .ok ((rowPL m :: (ts.take i).map rowTL).map Z ++ [Z (rowTL t)]) := appT_ok (by rw [List.length_map, List.length_cons, List.length_map, List.length_take]; omega)
    refine .inl ?_
    unfold tb1_web_text
    rw [tie_t (h.2 t ham), r_bind_ok, e1, ob_ok, List.take_add_one, ht]
    simp)
  rw [List.take_length] at k
  have k : (forT tb1_web_text ts ([Z (rowPL m)] : List Str) : TR Empty (List Str) Str) = .nx ((rowsL m ts).map Z) := k
  have h2 : (rowsL m ts).length = ts.length + 1 := by unfold rowsL; rw [List.length_cons, List.length_map]
  have e2 : joinT (Z [10]) ((rowsL m ts).map Z) = .ok (Z (TL.joinL [10] (rowsL m ts))) := joinT_t (by
    have := sum_len (B := 130) (l := rowsL m ts) fun x hx => (rows_ok h x hx).1
    show _ + _ * 1 ≤ _
    omega)
  have e3 : catZ (Z (TL.joinL [10] (rowsL m ts))) (Z [10]) = .ok (Z (textL m ts)) := catZ_t (by
    have := (text_ok h hl).1
    unfold textL at this
    rw [List.length_append] at this
    omega)
  unfold t_web_text
  simp only [e0, r_bind_ok, ob_ok, k, tsq_nx, z_nl, e2, e3, out_rt]
theorem ixT_last {α : Type} (l : List α) (a : α) : ixT (l ++ [a]) (-(1 : Int)) = .ok a := by
  have e : ixN (l ++ [a]).length (-(1 : Int)) = some l.length := by
    rw [List.length_append, List.length_singleton]
    unfold ixN
    rw [if_neg (by omega), if_pos (by omega)]
    congr 1
    omega
  unfold ixT atI
  rw [e]
  show (match (l ++ [a])[l.length]? with | some d => R.ok d | none => R.no) = _
  rw [List.getElem?_append_right (Nat.le_refl _), Nat.sub_self]
  rfl
/-! rows told -/
theorem unOs_t : ∀ {l : List (Option Int)}, none ∉ l → unOs l = .ok (l.filterMap id)
  | [], _ => rfl
  | none :: l, h => absurd List.mem_cons_self h
  | some a :: l, h => by
    show (unOs l).map (a :: ·) = _
    rw [unOs_t (l := l) fun z => h (List.mem_cons_of_mem _ z)]
    rfl
def numsOf (ws : List (List Nat)) : Option (List Int) := if none ∈ ws.map numOf then none else some (ws.filterMap numOf)
theorem nums_ints {is : List Int} (h : ∀ i ∈ is, sm i) : numsOf (is.map numZ) = some is := by
  have e : ∀ is : List Int, (∀ i ∈ is, sm i) → (is.map numZ).map numOf = is.map some := fun is h => by
    rw [List.map_map]
    exact List.map_congr_left fun i hi => numOf_int (h i hi)
  have e2 : ∀ is : List Int, (∀ i ∈ is, sm i) → (is.map numZ).filterMap numOf = is := by
    intro is
    induction is with
    | nil => intro _; rfl
    | cons a r ih =>
      intro h
      rw [List.map_cons, List.filterMap_cons, numOf_int (h a List.mem_cons_self), ih fun i hi => h i (List.mem_cons_of_mem _ hi)]
  unfold numsOf
  rw [e is h, if_neg (by simp), e2 is h]
theorem numbers_told_t {ws : List (List Nat)} (h : ∀ w ∈ ws, AS w ∧ w.length ≤ 600) (hl : ws.length ≤ 100000) : t_numbers_told (ws.map Z) = .ok (numsOf ws) := by
  have e1 : fLcT (fun _ => .ok true) ty1_numbers_told (ws.map Z) = .ok (ws.map numOf) := by
    have := fLcT_map (y := ty1_numbers_told) (l := ws.map Z) (fun z : Str => numOf z.cps.toList) (by rw [List.length_map]; omega) fun z hz => by
      obtain ⟨w, hw, rfl⟩ := List.mem_map.mp hz
      exact number_told_t (h w hw).1 (h w hw).2
    rw [this, List.map_map]
    rfl
  unfold t_numbers_told numsOf
  by_cases c : none ∈ ws.map numOf
  · rw [if_pos c]
    simp only [e1, ob_ok, decide_eq_true c, cond_true]
    rfl
  · rw [if_neg c]
    have e2 : unOs (ws.map numOf) = .ok (ws.filterMap numOf) := by
      rw [unOs_t c, List.filterMap_map]
      rfl
    simp only [e1, ob_ok, decide_eq_false c, cond_false, e2, map_ok_, out_rt]
/-- a row: its words by blanks -/
theorem row_told_t {r w : List Nat} (hr : AS r) (hl : r.length ≤ 600) (hw : AS w) (many : Nat) (at' : Int) :
    t_row_told (Z r) (Z w) (many : Int) at' = if (TL.spl [32] 0 [] r).head? = some w ∧ (TL.spl [32] 0 [] r).length = many + 1 ∧ (numsOf ((TL.spl [32] 0 [] r).drop 1)).isSome = true then .ok (numsOf ((TL.spl [32] 0 [] r).drop 1)) else .er 12 [eI at'] := by
  have e1 : splitT (Z r) (Z [32]) = .ok ((TL.spl [32] 0 [] r).map Z) := splitT_t (by omega) (by decide)
  have hin : ∀ x ∈ TL.spl [32] 0 [] r, AS x ∧ x.length ≤ 600 := by
    have gen : ∀ (l acc : List Nat) (x : List Nat), x ∈ TL.spl [32] 0 acc l → (∀ c ∈ x, c ∈ acc ++ l) ∧ x.length ≤ acc.length + l.length := by
      intro l
      induction l with
      | nil =>
        intro acc x hx
        rw [TL.spl_nil] at hx
        rw [List.mem_singleton.mp hx]
        exact ⟨fun c hc => List.mem_append_left _ hc, Nat.le_add_right _ _⟩
      | cons c l ih =>
        intro acc x hx
        by_cases p : TL.pre [32] (c :: l) = true
        · rw [TL.spl_hit p] at hx
          rcases List.mem_cons.mp hx with z | z
          · rw [z]; exact ⟨fun c hc => List.mem_append_left _ hc, Nat.le_add_right _ _⟩
          · obtain ⟨i1, i2⟩ := ih [] x z
            rw [List.nil_append] at i1
            exact ⟨fun d hd => List.mem_append_right _ (List.mem_cons_of_mem _ (i1 d hd)), by rw [List.length_cons]; simp at i2; omega⟩
        · rw [TL.spl_miss (by simpa using p)] at hx
          obtain ⟨i1, i2⟩ := ih (acc ++ [c]) x hx
          exact ⟨fun d hd => by have := i1 d hd; rw [List.append_assoc] at this; exact this, by rw [List.length_append] at i2; rw [List.length_cons]; simp at i2; omega⟩
    intro x hx
    obtain ⟨i1, i2⟩ := gen r [] x hx
    exact ⟨hr.sub fun c hc => by simpa using i1 c hc, by simp at i2; omega⟩
  have hne : TL.spl [32] 0 [] r ≠ [] := by
    have gen : ∀ (l acc : List Nat), TL.spl [32] 0 acc l ≠ [] := by
      intro l
      induction l with
      | nil => intro acc; rw [TL.spl_nil]; simp
      | cons c l ih =>
        intro acc
        by_cases p : TL.pre [32] (c :: l) = true
        · rw [TL.spl_hit p]; simp
        · rw [TL.spl_miss (by simpa using p)]; exact ih _
    exact gen r []
  have hwl : (TL.spl [32] 0 [] r).length ≤ 1000 := by
    have gen : ∀ (l acc : List Nat), (TL.spl [32] 0 acc l).length ≤ l.length + 1 := by
      intro l
      induction l with
      | nil => intro acc; rw [TL.spl_nil]; simp
      | cons c l ih =>
        intro acc
        by_cases p : TL.pre [32] (c :: l) = true
        · rw [TL.spl_hit p]; have := ih []; simp only [List.length_cons] at *; simp at *; omega
        · rw [TL.spl_miss (by simpa using p)]; have := ih (acc ++ [c]); rw [List.length_cons]; omega
    have := gen r []
    omega
  generalize TL.spl [32] 0 [] r = ws at *
  have e2 : cutL (ws.map Z) (some (1 : Int)) none = (ws.drop 1).map Z := by rw [cutL_drop _ (by omega), List.map_drop]; rfl
  have e3 : t_numbers_told ((ws.drop 1).map Z) = .ok (numsOf (ws.drop 1)) := numbers_told_t (fun x hx => hin x (List.mem_of_mem_drop hx)) (by rw [List.length_drop]; omega)
  cases ws with
  | nil => exact absurd rfl hne
  | cons a ws =>
    have e4 : ixT ((a :: ws).map Z) (0 : Int) = .ok (Z a) := ixT_zero
    have e5 : eqZ (Z a) (Z w) = .ok (decide (a = w)) := eqZ_t (hin a List.mem_cons_self).1 hw
    unfold t_row_told
    simp only [z_blank, e1, ob_ok, e2, e3, e4, r_bind_ok, e5, map_ok_]
    by_cases c1 : a = w
    · by_cases c2 : (a :: ws).length = many + 1
      · cases hn : numsOf ((a :: ws).drop 1) with
        | none =>
          rw [if_neg (by rintro ⟨_, _, z⟩; simp at z)]
          simp only [decide_eq_true c1, Bool.not_true, cond_false, Option.isNone_none, Bool.or_true, ob_ok, cond_true]
          rfl
        | some ns =>
          rw [if_pos ⟨by rw [c1]; rfl, c2, rfl⟩]
          have c3 : (((a :: ws).map Z).length : Int) = (many : Int) + 1 := by rw [List.length_map]; omega
          simp only [decide_eq_true c1, Bool.not_true, cond_false, decide_eq_true c3, Option.isNone_some, Bool.or_self, ob_ok, out_rt]
      · rw [if_neg (by rintro ⟨_, z, _⟩; exact c2 z)]
        have c3 : ¬ (((a :: ws).map Z).length : Int) = (many : Int) + 1 := by rw [List.length_map]; omega
        simp only [decide_eq_true c1, Bool.not_true, cond_false, decide_eq_false c3, Bool.not_false, Bool.true_or, ob_ok, cond_true]
        rfl
    · rw [if_neg (by rintro ⟨z, _⟩; simp at z; exact c1 z)]
      simp only [decide_eq_false c1, Bool.not_false, cond_true, ob_ok]
      rfl
theorem row_of_words {w : List Nat} {is : List Int} (hw : 32 ∉ w) : TL.spl [32] 0 [] (TL.joinL [32] (w :: is.map numZ)) = w :: is.map numZ := TL.spl_join (by simp) fun p hp => by
  rcases List.mem_cons.mp hp with z | z
  · rw [z]; exact hw
  · obtain ⟨i, _, rfl⟩ := List.mem_map.mp z
    exact numZ_free (by omega)
theorem rowP_told {m : Int} (h : sm m) (at' : Int) : t_row_told (Z (rowPL m)) ("places" : Str) 1 at' = .ok (some [m]) := by
  have e : rowPL m = TL.joinL [32] (wP :: [m].map numZ) := by
    show wP ++ [32] ++ numZ m = wP ++ ([32] ++ numZ m)
    rw [List.append_assoc]
  have k := row_told_t (r := rowPL m) (w := wP) (rowPL_as m) (by have := rowPL_len h; omega) (as_dec (by decide)) 1 at'
  rw [e, row_of_words (by decide), if_pos ⟨rfl, rfl, by show (numsOf ([m].map numZ)).isSome = true; rw [nums_ints (by simpa using h)]; rfl⟩] at k
  rw [e, z_pl0]
  refine Eq.trans k ?_
  show R.ok (numsOf ([m].map numZ)) = _
  rw [nums_ints (by simpa using h)]
theorem rowT_told {t : Int × Int} (h : sm t.1 ∧ sm t.2) (at' : Int) : t_row_told (Z (rowTL t)) ("tie" : Str) 2 at' = .ok (some [t.1, t.2]) := by
  have e : rowTL t = TL.joinL [32] (wT :: [t.1, t.2].map numZ) := by
    show wT ++ [32] ++ numZ t.1 ++ [32] ++ numZ t.2 = wT ++ ([32] ++ (numZ t.1 ++ ([32] ++ numZ t.2)))
    simp
  have hs : ∀ i ∈ [t.1, t.2], sm i := fun i hi => by
    simp only [List.mem_cons, List.not_mem_nil, or_false] at hi
    rcases hi with z | z <;> rw [z]
    · exact h.1
    · exact h.2
  have k := row_told_t (r := rowTL t) (w := wT) (rowTL_as t) (by have := rowTL_len h; omega) (as_dec (by decide)) 2 at'
  rw [e, row_of_words (by decide), if_pos ⟨rfl, rfl, by show (numsOf ([t.1, t.2].map numZ)).isSome = true; rw [nums_ints hs]; rfl⟩] at k
  rw [e, z_tie0]
  refine Eq.trans k ?_
  show R.ok (numsOf ([t.1, t.2].map numZ)) = _
  rw [nums_ints hs]
theorem read_web_t {m : Int} {ts : List (Int × Int)} (w : Wb m ts) (h : smW m ts) : t_read_web (Z (textL m ts)) = .ok ⟨m, ts⟩ := by
  have h40 := w.len
  have hsp : TL.spl [10] 0 [] (textL m ts) = rowsL m ts ++ [[]] := by
    unfold textL rowsL
    rw [join_end]
    exact TL.spl_join (by simp) fun p hp => by
      rcases List.mem_append.mp hp with z | z
      · exact (rows_ok h p z).2.2
      · rw [List.mem_singleton.mp z]; simp
  have e1 : splitT (Z (textL m ts)) (Z [10]) = .ok ((rowsL m ts ++ [[]]).map Z) := by
    rw [splitT_t (by have := (text_ok h (by omega)).1; omega) (by decide), hsp]
  have hrl : (rowsL m ts).length = ts.length + 1 := by unfold rowsL; rw [List.length_cons, List.length_map]
  have hll : ((rowsL m ts ++ [[]]).map Z).length = ts.length + 2 := by rw [List.length_map, List.length_append, hrl]; rfl
  have e2 : ixT ((rowsL m ts ++ [[]]).map Z) (0 : Int) = .ok (Z (rowPL m)) := ixT_zero
  have e3 := rowP_told h.1 1
  have e4 : range2T (1 : Int) ((((rowsL m ts ++ [[]]).map Z).length : Int) - 1) = .ok (rangeI 1 ts.length) := by
    rw [range2T_ok (by omega) (by omega) (by omega) (by omega)]
    congr 2
    omega
  have k := forT_st (Λ := Empty) (ρ := W) (b := tb1_read_web ((rowsL m ts ++ [[]]).map Z)) (l := rangeI 1 ts.length) (fun i => ts.take i) (fun i a ha => by
    have hi : i < ts.length := by
      have := (List.getElem?_eq_some_iff.mp ha).1
      rwa [rangeI_len] at this
    rw [rangeI_get hi] at ha
    have ha := Option.some.inj ha
    subst ha
    have x1 : ixT ((rowsL m ts ++ [[]]).map Z) ((1 : Int) + (i : Int)) = .ok (Z (rowTL ts[i])) := by
      rw [show (1 : Int) + (i : Int) = ((i + 1 : Nat) : Int) by omega]
      refine ixT_some ?_
      unfold rowsL
      rw [List.getElem?_map, List.cons_append, List.getElem?_cons_succ, List.getElem?_append_left (by rw [List.length_map]; exact hi), List.getElem?_map, List.getElem?_eq_getElem hi]
      rfl
    have x2 := rowT_told (h.2 _ (List.getElem_mem hi)) ((1 : Int) + (i : Int) + 1)
    have x3 : appT (ts.take i) (ts[i].1, ts[i].2) = .ok (ts.take i ++ [ts[i]]) := appT_ok (by rw [List.length_take]; omega)
    have x4 : ixT ([ts[i].1, ts[i].2] : List Int) (0 : Int) = .ok ts[i].1 := ixT_zero
    have x5 : ixT ([ts[i].1, ts[i].2] : List Int) (1 : Int) = .ok ts[i].2 := ixT_some (i := 1) rfl
    refine .inl ?_
    unfold tb1_read_web
    simp only [x1, r_bind_ok, x2, ob_ok, unO, x4, x5, x3]
    rw [List.take_add_one, List.getElem?_eq_getElem hi]
    rfl)
  rw [rangeI_len, List.take_length, List.take_zero] at k
  have k : (forT (tb1_read_web ((rowsL m ts ++ [[]]).map Z)) (rangeI 1 ts.length) ([] : List (Int × Int)) : TR Empty (List (Int × Int)) W) = .nx ts := k
  have e5 : ixT ((rowsL m ts ++ [[]]).map Z) (-(1 : Int)) = .ok (Z []) := by
    rw [List.map_append]
    exact ixT_last _ _
  have e6 : eqZ (Z []) (Z []) = .ok (decide (([] : List Nat) = [])) := eqZ_t (as_dec (by decide)) (as_dec (by decide))
  have e7 : ixT ([m] : List Int) (0 : Int) = .ok m := ixT_zero
  have c1 : ¬ ((((rowsL m ts ++ [[]]).map Z).length : Int) = 1) := by omega
  unfold t_read_web
  simp only [z_nl, e1, ob_ok, decide_eq_false c1, cond_false, e2, r_bind_ok, e3, e4, k, tsq_nx, e5, z_none, e6, map_ok_, decide_true, Bool.not_true, unO, e7, w.mk', out_rt]
end BW.Wk
namespace BW.Wk
open PySem PySem.Spec PyProof.Rows L2
/-- a text of plain signs, not longer than n -/
def AZ (n : Nat) (z : Str) : Prop := AS z.cps.toList ∧ z.cps.toList.length ≤ n
theorem AZ.cat {a b : Nat} {x y : Str} (h : AZ a x) (k : AZ b y) (hs : a + b ≤ 1000) : catZ x y = .ok (x ++ y) ∧ AZ (a + b) (x ++ y) := by
  have e : (x ++ y).cps.toList = x.cps.toList ++ y.cps.toList := TL.tl_append x y
  refine ⟨?_, by rw [e]; exact h.1.app k.1, by rw [e, List.length_append]; exact Nat.add_le_add h.2 k.2⟩
  have h2 := h.2
  have k2 := k.2
  rw [Array.length_toList] at h2 k2
  unfold catZ
  rw [if_pos]
  show x.cps.size + y.cps.size ≤ _
  omega
theorem AZ.le {a b : Nat} {x : Str} (h : AZ a x) (k : a ≤ b) : AZ b x := ⟨h.1, Nat.le_trans h.2 k⟩
theorem az_Z {l : List Nat} {n : Nat} (h : AS l) (k : l.length ≤ n) : AZ n (Z l) := ⟨h, k⟩
theorem az_dec {n : Nat} {z : Str} (h : (z.cps.toList.all (fun c => decide (c < 128)) && decide (z.cps.toList.length ≤ n)) = true) : AZ n z := by
  obtain ⟨h1, h2⟩ := Bool.and_eq_true_iff.mp h
  exact ⟨as_dec h1, of_decide_eq_true h2⟩
theorem az_all {n : Nat} {l : List Str} (h : l.all (fun z => z.cps.toList.all (fun c => decide (c < 128)) && decide (z.cps.toList.length ≤ n)) = true) : ∀ z ∈ l, AZ n z := fun z hz => az_dec (List.all_eq_true.mp h z hz)
theorem ixT_mem {α : Type} {l : List α} {i : Int} (h0 : 0 ≤ i) (h : i < (l.length : Int)) : ∃ a ∈ l, ixT l i = .ok a := by
  obtain ⟨j, rfl⟩ := Int.eq_ofNat_of_zero_le h0
  have hj : j < l.length := by omega
  exact ⟨l[j], List.getElem_mem hj, ixT_nat hj⟩
theorem slz_az {n : Nat} {z : Str} (h : AZ n z) (hn : n ≤ 1000) {k : Int} (hk : 0 ≤ k) : ∃ a b, slZ z none (some k) = .ok a ∧ slZ z (some k) none = .ok b ∧ AZ n a ∧ AZ n b := by
  have e : z = Z z.cps.toList := (SX.S_tl z).symm
  have h2 := h.2
  refine ⟨Z (z.cps.toList.take k.toNat), Z (z.cps.toList.drop k.toNat), ?_, ?_, ⟨h.1.sub fun c hc => List.mem_of_mem_take hc, ?_⟩, ⟨h.1.sub fun c hc => List.mem_of_mem_drop hc, ?_⟩⟩
  · conv => lhs; rw [e]
    exact slZ_to (by omega) hk
  · conv => lhs; rw [e]
    exact slZ_from (by omega) hk
  · show (z.cps.toList.take k.toNat).length ≤ n
    rw [List.length_take]; omega
  · show (z.cps.toList.drop k.toNat).length ≤ n
    rw [List.length_drop]; omega
theorem len_az {n : Nat} {z : Str} (h : AZ n z) (hn : n ≤ 1000) : lenZ z = .ok (z.cps.toList.length : Int) := by
  have h2 := h.2
  conv => lhs; rw [(SX.S_tl z).symm]
  exact lenZ_t (by omega)
theorem words_t (c : Int) : ∃ ws : List Str, t__law_words c = .ok ws ∧ ∀ z ∈ ws, AZ 600 z := by
  have m0 := Int.emod_nonneg c (b := 2 * 10 ^ 40) (by decide)
  have m1 := Int.emod_lt_of_pos c (b := 2 * 10 ^ 40) (by decide)
  have n0 := Int.emod_nonneg c (b := 7) (by decide)
  have n1 := Int.emod_lt_of_pos c (b := 7) (by decide)
  have e1 : strT ((c % ((2 : Int) * ((10 : Int) ^ (40 : Nat)))) - ((10 : Int) ^ (40 : Nat))) = .ok (Z (numZ ((c % (2 * 10 ^ 40)) - 10 ^ 40))) := strT_t (by omega)
  have a1 : AZ 100 (Z (numZ ((c % (2 * 10 ^ 40)) - 10 ^ 40))) := az_Z (numZ_as _) (by have := numZ_len (i := (c % (2 * 10 ^ 40)) - 10 ^ 40) (by omega); omega)
  have e2 : strT (c % (7 : Int)) = .ok (Z (numZ (c % 7))) := strT_t (by omega)
  have a2 : AZ 100 (Z (numZ (c % 7))) := az_Z (numZ_as _) (by have := numZ_len (i := c % 7) (by omega); omega)
  generalize Z (numZ ((c % (2 * 10 ^ 40)) - 10 ^ 40)) = x1 at *
  generalize Z (numZ (c % 7)) = x27 at *
  have hlit := az_all (n := 100) (l := [("0" : Str), ("-" : Str), ("+" : Str), (" " : Str), ("_" : Str), ("." : Str), ("e" : Str), ("x" : Str), ("\n" : Str), ("7" : Str)]) (by decide +kernel)
  have p0 := Int.emod_nonneg c (b := 10) (by decide)
  have p1 := Int.emod_lt_of_pos c (b := 10) (by decide)
  have e3 : modT c (([("0" : Str), ("-" : Str), ("+" : Str), (" " : Str), ("_" : Str), ("." : Str), ("e" : Str), ("x" : Str), ("\n" : Str), ("7" : Str)] : List Str).length : Int) = .ok (c % 10) := modT_ok (by decide)
  obtain ⟨x4, x4m, e4⟩ := ixT_mem (l := ([("0" : Str), ("-" : Str), ("+" : Str), (" " : Str), ("_" : Str), ("." : Str), ("e" : Str), ("x" : Str), ("\n" : Str), ("7" : Str)] : List Str)) p0 (by show c % 10 < (10 : Nat); omega)
  have a4 := hlit x4 x4m
  have e5 := len_az a1 (by omega)
  have e6 : modT (c / (10 : Int)) ((x1.cps.toList.length : Int) + 1) = .ok (c / 10 % ((x1.cps.toList.length : Int) + 1)) := modT_ok (by omega)
  have q0 := Int.emod_nonneg (c / 10) (b := (x1.cps.toList.length : Int) + 1) (by omega)
  generalize c / 10 % ((x1.cps.toList.length : Int) + 1) = x7 at *
  have e8 : mulZ ("0" : Str) (59 : Int) = .ok (repZ ("0" : Str) 59) := mulZ_ok (by decide +kernel)
  have e9 : mulZ ("0" : Str) (60 : Int) = .ok (repZ ("0" : Str) 60) := mulZ_ok (by decide +kernel)
  have a8 : AZ 100 (repZ ("0" : Str) 59) := az_dec (by decide +kernel)
  have a9 : AZ 100 (repZ ("0" : Str) 60) := az_dec (by decide +kernel)
  generalize repZ ("0" : Str) 59 = r59 at *
  generalize repZ ("0" : Str) 60 = r60 at *
  have b1 : AZ 100 ("1" : Str) := az_dec (by decide +kernel)
  have b2 : AZ 100 ("-1" : Str) := az_dec (by decide +kernel)
  obtain ⟨f1, g1⟩ := b1.cat a8 (by omega)
  obtain ⟨f2, g2⟩ := b1.cat a9 (by omega)
  obtain ⟨f3, g3⟩ := b2.cat a8 (by omega)
  obtain ⟨f4, g4⟩ := b2.cat a9 (by omega)
  have hm := az_all (n := 100) (l := [("" : Str), ("-" : Str), ("-0" : Str), ("00" : Str), ("+1" : Str), ("1_0" : Str), (" 1" : Str), ("1 " : Str), ("--1" : Str), ("-01" : Str), ("0" : Str), ("-7" : Str)]) (by decide +kernel)
  generalize ("1" : Str) ++ r59 = v11 at *
  generalize ("1" : Str) ++ r60 = v12 at *
  generalize ("-1" : Str) ++ r59 = v13 at *
  generalize ("-1" : Str) ++ r60 = v16 at *
  have e10 : catT ([("" : Str), ("-" : Str), ("-0" : Str), ("00" : Str), ("+1" : Str), ("1_0" : Str), (" 1" : Str), ("1 " : Str), ("--1" : Str), ("-01" : Str), v11, v12, v13] : List Str) ([v16, ("0" : Str), ("-7" : Str)] : List Str) = .ok ([("" : Str), ("-" : Str), ("-0" : Str), ("00" : Str), ("+1" : Str), ("1_0" : Str), (" 1" : Str), ("1 " : Str), ("--1" : Str), ("-01" : Str), v11, v12, v13] ++ [v16, ("0" : Str), ("-7" : Str)]) := catT_ok (by show 13 + 3 ≤ _; omega)
  have r0 := Int.emod_nonneg (c / 3) (b := 16) (by decide)
  have r1 := Int.emod_lt_of_pos (c / 3) (b := 16) (by decide)
  have e11 : modT (c / (3 : Int)) ((([("" : Str), ("-" : Str), ("-0" : Str), ("00" : Str), ("+1" : Str), ("1_0" : Str), (" 1" : Str), ("1 " : Str), ("--1" : Str), ("-01" : Str), v11, v12, v13] ++ [v16, ("0" : Str), ("-7" : Str)] : List Str).length : Nat) : Int) = .ok (c / 3 % 16) := modT_ok (by show (0 : Int) < ((16 : Nat) : Int); decide)
  obtain ⟨x26, x26m, e12⟩ := ixT_mem (l := ([("" : Str), ("-" : Str), ("-0" : Str), ("00" : Str), ("+1" : Str), ("1_0" : Str), (" 1" : Str), ("1 " : Str), ("--1" : Str), ("-01" : Str), v11, v12, v13] ++ [v16, ("0" : Str), ("-7" : Str)] : List Str)) r0 (by show c / 3 % 16 < ((16 : Nat) : Int); omega)
  have a26 : AZ 200 x26 := by
    simp only [List.mem_append, List.mem_cons, List.not_mem_nil, or_false] at x26m hm
    rcases x26m with (z | z | z | z | z | z | z | z | z | z | z | z | z) | (z | z | z)
    all_goals first
      | (rw [z]; assumption)
      | exact (hm x26 (by simp [z])).le (by omega)
  obtain ⟨u, v, s1, s2, s3, s4⟩ := slz_az a1 (by omega) q0
  obtain ⟨h1, i1⟩ := s3.cat a4 (by omega)
  obtain ⟨h2, i2⟩ := i1.cat s4 (by omega)
  obtain ⟨h3, i3⟩ := a4.cat a1 (by omega)
  obtain ⟨h4, i4⟩ := a1.cat a4 (by omega)
  refine ⟨[x1, (u ++ x4) ++ v, x4 ++ x1, x1 ++ x4, x26, x27], ?_, fun z hz => ?_⟩
  · unfold t__law_words
    simp only [e1, ob_ok, e3, r_bind_ok, e4, e5, e6, e8, f1, e9, f2, f3, f4, e10, s1, h1, s2, h2, h3, h4, e11, e12, e2, out_rt]
  · simp only [List.mem_cons, List.not_mem_nil, or_false] at hz
    rcases hz with z | z | z | z | z | z <;> rw [z]
    · exact a1.le (by omega)
    · exact i2.le (by omega)
    · exact i3.le (by omega)
    · exact i4.le (by omega)
    · exact a26.le (by omega)
    · exact a2.le (by omega)
/-- the law's own reading of a word -/
theorem lsigns (l : List Nat) : (forT tb1__law_number (signsT (Z l)) () : TR Empty Unit (Option Int)) = cond (l.any fun c => !digB c) (.rt none) (.nx ()) := nsigns l
theorem lnumber_t {l : List Nat} (ha : AS l) (hl : l.length ≤ 600) : t__law_number (Z l) = .ok (numOf l) := by
  have s1 : slZ (Z l) none (some 1) = .ok (Z (l.take 1)) := slZ_to (by omega) (by omega)
  have s2 : slZ (Z l) (some 1) none = .ok (Z (l.drop 1)) := slZ_from (by omega) (by omega)
  have q1 : eqZ (Z (l.take 1)) (Z [45]) = .ok (decide (l.take 1 = [45])) := eqZ_t (ha.sub fun c hc => List.mem_of_mem_take hc) (as_dec (by decide))
  have hb := body_len l
  have hba := body_as ha
  have q2 : eqZ (Z (bodyL l)) (Z []) = .ok (decide (bodyL l = [])) := eqZ_t hba (as_dec (by decide))
  have q3 : lenZ (Z (bodyL l)) = .ok ((bodyL l).length : Int) := lenZ_t (by omega)
  have q4 : eqZ (Z l) (Z [45, 48]) = .ok (decide (l = [45, 48])) := eqZ_t ha (as_dec (by decide))
  have q6 : eqZ (Z (bodyL l)) (Z [48]) = .ok (decide (bodyL l = [48])) := eqZ_t hba (as_dec (by decide))
  have q5 := lsigns (bodyL l)
  have e2 : ∀ k : Str → TR Empty Unit (Option Int), (TR.sq (TR.ob ((slZ (Z l) none (some (1 : Int))).bind fun v1 => eqZ v1 ("-" : Str)) fun k15 => cond k15 (TR.ob (slZ (Z l) (some (1 : Int)) none) fun x3 => .nx x3) (.nx (Z l))) k : TR Empty Unit (Option Int)) = k (Z (bodyL l)) := fun k => by
    unfold bodyL
    by_cases c : l.take 1 = [45]
    · rw [if_pos c]; simp only [z_minus, s1, r_bind_ok, q1, decide_eq_true c, ob_ok, cond_true, s2, tsq_nx]
    · rw [if_neg c]; simp only [z_minus, s1, r_bind_ok, q1, decide_eq_false c, ob_ok, cond_false, tsq_nx]
  unfold t__law_number numOf
  rw [e2]
  simp only [z_none, z_m0, z_0, q2, r_bind_ok, q3, q4, q6, map_ok_]
  by_cases c1 : bodyL l = []
  · rw [if_pos (.inl c1)]
    simp only [decide_eq_true c1, cond_true, ob_ok]
    rfl
  · by_cases c2 : 60 < (bodyL l).length
    · rw [if_pos (.inr (.inl c2))]
      simp only [decide_eq_false c1, cond_false, decide_eq_true (show (60 : Int) < ((bodyL l).length : Int) by omega), cond_true, ob_ok]
      rfl
    · by_cases c3 : l = [45, 48]
      · rw [if_pos (.inr (.inr c3))]
        simp only [decide_eq_false c1, cond_false, decide_eq_false (show ¬ (60 : Int) < ((bodyL l).length : Int) by omega), decide_eq_true c3, cond_true, ob_ok]
        rfl
      · rw [if_neg (by rintro (z | z | z) <;> contradiction)]
        simp only [decide_eq_false c1, cond_false, decide_eq_false (show ¬ (60 : Int) < ((bodyL l).length : Int) by omega), decide_eq_false c3, ob_ok]
        cases hB : bodyL l with
        | nil => exact absurd hB c1
        | cons d r =>
          rw [hB] at hb hba q5 q6
          have x1 : ixZ (Z (d :: r)) 0 = .ok (Z [d]) := ixZ_t (by omega)
          have x2 : eqZ (Z [d]) (Z [48]) = .ok (decide ([d] = [48])) := eqZ_t (hba.sub fun c hc => by rw [List.mem_singleton.mp hc]; exact List.mem_cons_self) (as_dec (by decide))
          simp only [x1, r_bind_ok, x2]
          have fin : ∀ h : ¬ ((d :: r).take 1 = [48] ∧ 1 < (d :: r).length), TR.out (Γ := Unit) (TR.sq (forT (tb1__law_number) (signsT (Z (d :: r))) ()) fun g11 => TR.ob ((intZ (Z l)).map fun x => some x) .rt) .no = .ok (if (d :: r).take 1 = [48] ∧ 1 < (d :: r).length then none else if (d :: r).any (fun c => !digB c) = true then none else intText? (Z l)) := fun h => by
            rw [if_neg h, q5]
            by_cases a : (d :: r).any (fun c => !digB c) = true
            · rw [if_pos a, a]; rfl
            · rw [if_neg a]
              have a' : (d :: r).any (fun c => !digB c) = false := by simpa using a
              obtain ⟨n, hn⟩ := good_int (l := l) hl c1 (fun c hc => by
                rw [hB] at hc
                have := List.any_eq_false.mp a' c hc
                simpa using this)
              have i1 : intZ (Z l) = .ok n := intZ_ok (by rw [Z_len]; omega) hn
              rw [a', i1, hn]
              rfl
          by_cases c4 : [d] = [48]
          · by_cases c5 : 1 < (d :: r).length
            · rw [if_pos ⟨c4, c5⟩]
              have c6 : ¬ (d :: r) = [48] := fun z => by rw [z] at c5; simp at c5
              simp only [decide_eq_true c4, cond_true, decide_eq_false c6, Bool.not_false, ob_ok]
              rfl
            · have c6 : (d :: r) = [48] := by
                cases r with
                | nil => exact c4
                | cons a r => simp at c5
              simp only [decide_eq_true c4, cond_true, decide_eq_true c6, Bool.not_true, ob_ok, cond_false]
              exact fin fun z => c5 z.2
          · simp only [decide_eq_false c4, cond_false, ob_ok]
            exact fin fun z => c4 z.1
theorem word_t {z : Str} (h : AZ 600 z) : tb1_law z () = .nx () := by
  have e1 : t__law_number z = .ok (numOf z.cps.toList) := by
    have := lnumber_t h.1 h.2
    rwa [show Z z.cps.toList = z from SX.S_tl z] at this
  have e2 : t_number_told z = .ok (numOf z.cps.toList) := by
    have := number_told_t h.1 h.2
    rwa [show Z z.cps.toList = z from SX.S_tl z] at this
  unfold tb1_law t__law_whole
  simp only [e1, ob_ok, e2]
  cases numOf z.cps.toList <;> simp [TR.out]
theorem ltext_t {m : Int} {ts : List (Int × Int)} (h : smW m ts) (hl : ts.length ≤ 100) : t__law_text m ts = .ok (Z (textL m ts)) := by
  have e0 := place_t h.1
  have hp := rowPL_len h.1
  have e1 : catZ (Z (rowPL m)) (Z [10]) = .ok (Z (rowPL m ++ [10])) := catZ_t (by show _ + 1 ≤ _; omega)
  have e2 : fLcT (fun _ => .ok true) ty1__law_text ts = .ok (ts.map fun t => Z (rowTL t ++ [10])) := fLcT_map _ (by omega) fun t ht => by
    have hr := rowTL_len (h.2 t ht)
    unfold ty1__law_text
    rw [tie_t (h.2 t ht), r_bind_ok, z_nl, catZ_t (by show _ + 1 ≤ _; omega)]
  have e3 : catT ([Z (rowPL m ++ [10])] : List Str) (ts.map fun t => Z (rowTL t ++ [10])) = .ok (((rowsL m ts).map (· ++ [10])).map Z) := by
    rw [catT_ok (by rw [List.length_map]; show 1 + _ ≤ _; omega)]
    unfold rowsL
    rw [List.map_cons, List.map_cons, List.map_map, List.map_map]
    rfl
  have hrl : (rowsL m ts).length = ts.length + 1 := by unfold rowsL; rw [List.length_cons, List.length_map]
  have e4 : joinT (Z []) (((rowsL m ts).map (· ++ [10])).map Z) = .ok (Z (TL.joinL [] ((rowsL m ts).map (· ++ [10])))) := joinT_t (by
    have := sum_len (B := 131) (l := (rowsL m ts).map (· ++ [10])) fun x hx => by
      obtain ⟨y, hy, rfl⟩ := List.mem_map.mp hx
      have := (rows_ok h y hy).1
      rw [List.length_append]; show _ + 1 ≤ _; omega
    rw [List.length_map] at this
    show _ + _ * 0 ≤ _
    omega)
  have e5 : TL.joinL [] ((rowsL m ts).map (· ++ [10])) = textL m ts := (join_nl [10] _ _).symm
  unfold t__law_text
  simp only [e0, z_nl, r_bind_ok, e1, ob_ok]
  rw [e2]
  simp only [r_bind_ok, e3, z_none, e4, e5, ob_ok, out_rt]
theorem join_blank : ∀ (a : List Nat) (l : List (List Nat)), TL.joinL [32] (a :: l) = TL.joinL [] (a :: l.map ([32] ++ ·))
  | a, [] => rfl
  | a, b :: l => by
    show a ++ ([32] ++ TL.joinL [32] (b :: l)) = a ++ ([] ++ TL.joinL [] (([32] ++ b) :: l.map ([32] ++ ·)))
    have ih := join_blank b l
    rw [ih]
    cases l with
    | nil => rfl
    | cons c l => show _ = a ++ ([] ++ (([32] ++ b) ++ ([] ++ _))); simp [TL.joinL]
theorem law_is_web_t {m : Int} {ts : List (Int × Int)} : t__law_is_web ⟨m, ts⟩ m ts = .ok true := by
  have k : (forT tb1__law_is_web ts () : TR Empty Unit Bool) = .nx () := forT_id fun t _ => by
    refine .inl ?_
    unfold tb1__law_is_web t__law_whole
    simp [TR.out]
  unfold t__law_is_web t__law_whole
  simp [k, isoW, TR.out]
theorem t_law_true (ns : List Int) (hn : ns.length ≤ 63) : t_law ns = .ok true := by
  obtain ⟨m, ts, w0, w⟩ := drawn_t ns
  have hm1 := w.lo
  have h20 := w.hi
  have h40 := w.len
  have hsm : smW m ts := ⟨by show m.natAbs < _; omega, fun t ht => by
    obtain ⟨a, b, c, d⟩ := w.ins t ht
    exact ⟨by show t.1.natAbs < _; omega, by show t.2.natAbs < _; omega⟩⟩
  have e1 := web_text_t hsm (by omega)
  have e2 := ltext_t hsm (by omega)
  have hta := (text_ok hsm (by omega)).2
  have e3 : eqZ (Z (textL m ts)) (Z (textL m ts)) = .ok true := by rw [eqZ_t hta hta, decide_eq_true rfl]
  have e4 := read_web_t w hsm
  have e5 := law_is_web_t (m := m) (ts := ts)
  have c0 : t__law_cell ns 0 = .ok (cellI ns 0) := cell_t (by omega)
  obtain ⟨A, a0, a1, a2⟩ := amounts_t (ns := ns) (c := (ts.length : Int)) (w := cellI ns 0 / 2460 % 2) (by omega) (by omega)
  have al : A.length ≤ 40 := by omega
  have asm : ∀ a ∈ A, a.natAbs < 10 ^ 60 := fun a ha => Nat.lt_trans (a2 a ha) (by decide)
  have f1 : fLcT (fun _ => .ok true) ty1_flow_text A = .ok ((A.map numZ).map Z) := by
    rw [fLcT_map (fun a => Z (numZ a)) (by omega) fun a ha => by
      unfold ty1_flow_text
      exact strT_t (sm80 (asm a ha)), List.map_map]
    rfl
  have f2 : catT ([("flow" : Str)] : List Str) ((A.map numZ).map Z) = .ok (([102, 108, 111, 119] :: A.map numZ).map Z) := by
    rw [catT_ok (by rw [List.length_map, List.length_map]; show 1 + _ ≤ _; omega), z_flow]
    rfl
  have hnl : ∀ x ∈ [102, 108, 111, 119] :: A.map numZ, x.length ≤ 61 := fun x hx => by
    rcases List.mem_cons.mp hx with z | z
    · rw [z]; decide
    · obtain ⟨a, ha, rfl⟩ := List.mem_map.mp z
      exact numZ_len (asm a ha)
  have f3 : joinT (Z [32]) (([102, 108, 111, 119] :: A.map numZ).map Z) = .ok (Z (TL.joinL [32] ([102, 108, 111, 119] :: A.map numZ))) := joinT_t (by
    have := sum_len (B := 61) hnl
    rw [List.length_cons, List.length_map] at this ⊢
    show _ + _ * 1 ≤ _
    omega)
  have f4 : t_flow_text A = .ok (Z (TL.joinL [32] ([102, 108, 111, 119] :: A.map numZ))) := by
    unfold t_flow_text
    simp only [f1, r_bind_ok, f2, z_blank, f3, ob_ok, out_rt]
  have g1 : fLcT (fun _ => .ok true) ty1_law A = .ok (((A.map numZ).map ([32] ++ ·)).map Z) := by
    rw [fLcT_map (fun a => Z ([32] ++ numZ a)) (by omega) fun a ha => by
      have := numZ_len (asm a ha)
      unfold ty1_law
      rw [strT_t (sm80 (asm a ha)), r_bind_ok, z_blank, catZ_t (by show 1 + _ ≤ _; omega)], List.map_map, List.map_map]
    rfl
  have g2 : catT ([("flow" : Str)] : List Str) (((A.map numZ).map ([32] ++ ·)).map Z) = .ok (([102, 108, 111, 119] :: (A.map numZ).map ([32] ++ ·)).map Z) := by
    rw [catT_ok (by rw [List.length_map, List.length_map, List.length_map]; show 1 + _ ≤ _; omega), z_flow]
    rfl
  have g3 : joinT (Z []) (([102, 108, 111, 119] :: (A.map numZ).map ([32] ++ ·)).map Z) = .ok (Z (TL.joinL [] ([102, 108, 111, 119] :: (A.map numZ).map ([32] ++ ·)))) := joinT_t (by
    have := sum_len (B := 62) (l := [102, 108, 111, 119] :: (A.map numZ).map ([32] ++ ·)) fun x hx => by
      rcases List.mem_cons.mp hx with z | z
      · rw [z]; decide
      · obtain ⟨y, hy, rfl⟩ := List.mem_map.mp z
        have := hnl y (List.mem_cons_of_mem _ hy)
        rw [List.length_append]; show 1 + _ ≤ _; omega
    rw [List.length_cons, List.length_map, List.length_map] at this
    rw [List.length_cons, List.length_map, List.length_map]
    show _ + _ * 0 ≤ _
    omega)
  rw [← join_blank] at g3
  have hfa : AS (TL.joinL [32] ([102, 108, 111, 119] :: A.map numZ)) := join_as (as_dec (by decide)) fun x hx => by
    rcases List.mem_cons.mp hx with z | z
    · rw [z]; exact as_dec (by decide)
    · obtain ⟨a, _, rfl⟩ := List.mem_map.mp z
      exact numZ_as a
  have g4 : eqZ (Z (TL.joinL [32] ([102, 108, 111, 119] :: A.map numZ))) (Z (TL.joinL [32] ([102, 108, 111, 119] :: A.map numZ))) = .ok true := by rw [eqZ_t hfa hfa, decide_eq_true rfl]
  have h1 : ∃ L, catT ([(0 : Int)] : List Int) (cutL ns none (some (40 : Int))) = .ok L := by
    refine ⟨_, catT_ok ?_⟩
    rw [cutL_take _ (by omega), List.length_take]
    show 1 + _ ≤ _
    omega
  obtain ⟨L, h1⟩ := h1
  have h2 : (forT tb2_law L () : TR Empty Unit Bool) = .nx () := forT_id fun c _ => by
    obtain ⟨ws, q0, q1⟩ := words_t c
    have q2 : (forT tb1_law ws () : TR Unit Unit Bool) = .nx () := forT_id fun z hz => .inl (word_t (q1 z hz))
    refine .inl ?_
    unfold tb2_law
    simp only [q0, r_bind_ok, ob_ok, q2, tsq_nx]
  unfold t_law
  simp only [w0, ob_ok, w.mk', e1, Bool.not_true, cond_false, e2, r_bind_ok, e3, map_ok_, e4, e5, c0, a0, f4, g1, g2, z_none, g3, g4, h1, h2, tsq_nx, out_rt]
theorem law_true (ns : List Int) (hn : ns.length ≤ 63) : m_law [.scr ns] = .ok (.bl true) := (h_law ns).get (t_law_true ns hn)
end BW.Wk
open PySem PySem.W PySem.Calls PyProof.Rows
theorem PySem.Challenge.cw_busyweb_k69_webs_as_texts_holds : PySem.Challenge.rw_busyweb_k69_webs_as_texts.Holds := by
  w_on; o_law
  refine HandSHeadRun.head_any (r := BW.Wk.Rw) (q := view BW.Wk.Rw.prog [28]) (H := BW.Wk.hk) (ob := BW.Wk.ob) (M := 20400) (loose := BW.Wk.names) (d := HandSHeadRun.topDef BW.Wk.Rw.prog 28) (kwd := []) BW.Wk.ob_eq
    (by kernel_rfl) (fun s => by kernel_rfl) BW.Wk.run (by kernel_rfl) (by kernel_rfl) (by kernel_rfl) (by rfl) (by first | assumption | decide +kernel) (by decide +kernel) ⟨rfl, rfl, rfl, rfl, rfl, by decide +kernel⟩ ?hw ?hc
  case hw => w_witness2
  case hc =>
    refine L2.walk_ofE (l := PySem.Challenge.rw_busyweb_k69_webs_as_texts) (n := 63) (k := 5) (x := "_law_script") (CX := L2.CX0) rfl (by decide) (by kernel_rfl) ⟨rfl, by decide, by decide⟩ ?F (fun _ _ _ _ z => z)
    intro w mg fa h Y G hmg0
    obtain ⟨K, KX, c⟩ := Y
    have hmg : mg ("law" : PySem.Str) = some (.ref fa) := by
      have e : (HandSHeadRun.topDef BW.Wk.Rw.prog 28).name = ("law" : PySem.Str) := by kernel_rfl
      rw [← e]
      exact hmg0
    have T : ∀ base : Heap, K.In base → base.Ns mainGlobals mg → BW.Wk.Tx (PySem.Challenge.rw_busyweb_k69_webs_as_texts).prog w K mg base := fun base _ _ => ⟨c, fun x z => He.glo_ok KX G z, fun x z => He.free_ok KX G z, fun x i z => He.int_ok KX G z, fun x z z2 => He.str_ok KX G z2⟩
    exact BW.law_end (m := BW.Wk.m_law) KX hmg (He.glo_ok KX G (c.d.fact 37 rfl)) (BW.Wk.ok_law c T) BW.Wk.law_true

