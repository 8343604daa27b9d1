import PyProof.Rows.All
import Wide.All
import OpenK.AllK
import Wide.FinOn
import HandS.ForMost
import HandS.Lambda
import HandS.TupAny
import HandS.Conv
import HandS.Strs
import HandS.Deep
import KE.KeyNested
import HandS.Wide
import HandS.TupMul
import HandS.Gcd
import HandS.IsInst
import HandS.SortInts
import HandS.Style
import HandS.Zip
import HandS.Defaults
import KE.GoesEnum
import HandS.Nested
import HandS.EndOwn
import PyProof.Rows.ReprOcc
import PyProof.ReprLen
import PyProof.FitsInt
import HandS.DictComp
import HandS.More
import PyProof.DictUpdate
import KE.KDictWalk
import KE.KDictList
import KE.KDictKeyed
import HandS.RevTup
import PySem.Challenge.RW_priorhall_k52_whole_knowing_beside_piece
set_option Elab.async false
set_option linter.all false
set_option maxRecDepth 100000
set_option maxHeartbeats 600000
/-! Pm0: tuples whose object bears no dict of names (so that their methods are found): kept locked, with their object. -/
namespace Pm
open PySem PySem.Spec PyProof.Rows L2
/-- a plain tuple's object -/
def tO (its : List Value) : Obj := { cls := .type "tuple", data := .seq its.toArray }
theorem tO_d {its : List Value} : (tO its).dict = none := rfl
/-- what stands for a made tuple -/
def NewT (H : Hp) (Q : VK) (xs : List V) : Prop := ∀ (ob : Obj) (p : Addr), ob.dict = none → H p = none → Q (.ref p) (upd H p (.frz ob (.tup xs)))
section
variable {X : Cx} {pins : List (Addr × Obj)} {s : Shared} {σ : L2.St} {H : Hp} {Q : VK} {xs : List V}
theorem newT {its : List Value} {tk : Nat} {h' : Heap} {q : Addr} (hk : ∀ b o, s.heap.get? b = some o → h'.get? b = some o) (hq : s.heap.objs.size ≤ q)
    (I : Inv X pins σ H s) (r : Vals xs its) (hz : xs.length ≤ sizeLine) (e : h'.get? q = some (tO its)) (h : NewT H Q xs) : EP X pins σ Q (.ref q) { s with heap := h', toks := tk } :=
  ⟨.ref q, upd H q (.frz (tO its) (.tup xs)), I.laid (t' := tk) hk hq (show ObjOk X.prog X.w _ h' q (.frz (tO its) (.tup xs)) from ⟨e, hz, its, r, ⟨_, e, rfl, _, rfl⟩⟩), rfl, h (tO its) q tO_d (I.hok.fresh hq)⟩
theorem newP {its : List Value} {tk : Nat} (I : Inv X pins σ H s) (r : Vals xs its) (hz : xs.length ≤ sizeLine) (h : NewT H Q xs) : EP X pins σ Q (.ref s.heap.objs.size) { s with heap := s.heap.push (tO its), toks := tk } :=
  newT (fun _ _ e => Heap.get?_push_of_some _ e) (Nat.le_refl _) I r hz (Heap.get?_push_size _ rfl) h

/-! ### displays -/
def xTup (t : TA) : TE := fun σ H Q => t σ H fun xs H1 => xs.length ≤ sizeLine ∧ NewT H1 Q xs
theorem xe_tup {es : List Expr} {t : TA} {pos : Pos} {k} (h : PA X es t) : PE X (.Tuple es k pos) (xTup t) :=
  ⟨fun pins s σ H Q I hq => wpAny_Tuple_spliced (thn (h.run pos pins s σ H _ I hq) fun us s1 ⟨xs, H1, I1, r, z, q⟩ => ⟨by rw [← r.length]; exact z, newP I1 r z q⟩)⟩
/-! ### t + u, t * k -/
def xCat (K : PySem.W.Frag) : R2 := fun x y H Q => ∃ a b xs ys, x = .ref a ∧ y = .ref b ∧ SqT K H a xs ∧ SqT K H b ys ∧ xs.length + ys.length ≤ sizeLine ∧
  (xs = [] → Q (.ref b) H) ∧ (xs ≠ [] → ys = [] → Q (.ref a) H) ∧ (xs ≠ [] → ys ≠ [] → NewT H Q (xs ++ ys))
theorem ox_cat : OpR X (binaryOp .Add) (xCat X.K) := fun pins s σ H x y v u Q I rx ry ⟨a, b, xs, ys, ex, ey, ha, hb, hz, q0, q1, q2⟩ => by
  subst ex ey
  by_cases hx : xs = []
  · subst hx
    exact op_catA pins s σ H _ _ v u Q I rx ry ⟨a, b, [], ys, rfl, rfl, ha, hb, hz, q0, fun h => absurd rfl h, fun h => absurd rfl h⟩
  · cases rx; cases ry
    obtain ⟨its, r1, p1, _⟩ := I.tuple ha
    obtain ⟨jts, r2, p2, _⟩ := I.tuple hb
    exact HT.cat_tup p1 p2 (fun z => hx (r1.nil_iff.mp z)) (fun z => ⟨.ref a, H, I, rfl, q1 hx (r2.nil_iff.mp z)⟩)
      (fun z => newP (its := its ++ jts) I (r1.append r2) (by rw [List.length_append]; exact hz) (q2 hx fun w => z (r2.nil_iff.mpr w))) (by rw [← r1.length, ← r2.length]; exact hz)
/-! ### t[lo:hi] -/
def xSl (K : PySem.W.Frag) : V → Option Int → Option Int → Hp → VK → Prop := fun x lo hi H Q => ∃ a xs, x = .ref a ∧ SqT K H a xs ∧
  (HT.sIx xs.length 0 lo = 0 ∧ HT.sIx xs.length xs.length hi = xs.length → Q (.ref a) H) ∧ (¬ (HT.sIx xs.length 0 lo = 0 ∧ HT.sIx xs.length xs.length hi = xs.length) → NewT H Q (cutV xs lo hi))
theorem ox_sl : SlR X (xSl X.K) := fun pins s σ H x v vl vu lo hi sl Q I rx hs pl pu ⟨a, xs, ex, hx, q1, q2⟩ => by
  subst ex
  by_cases hw : HT.sIx xs.length 0 lo = 0 ∧ HT.sIx xs.length xs.length hi = xs.length
  · exact sl_tupA pins s σ H _ v vl vu lo hi sl Q I rx hs pl pu ⟨a, xs, rfl, hx, q1, fun h => absurd hw h⟩
  · cases rx
    obtain ⟨its, r, ht, hz⟩ := I.tuple hx
    have e : its.toArray.size = xs.length := by rw [List.size_toArray]; exact r.length.symm
    refine ⟨"tuple", _, PyProof.Rows.slot_tuple_getitem.lookup, ht.typeIs, HT.getItem_tuple_cut ht hs pl pu (by rw [e]; exact hw) ?_ (by rw [e]; exact hz)⟩
    rw [e]
    exact newP I ((r.drop (HT.sIx xs.length 0 lo)).take (HT.sIx xs.length xs.length hi - HT.sIx xs.length 0 lo)) (Nat.le_trans (cutV_length xs lo hi) hz) (q2 hw)
/-! ### tuple(..) -/
theorem cx_tuple : CallR X (.type "tuple") (fun xs H Q => ∃ p ys, xs = [.ref p] ∧ ((SqL X.K H p ys ∧ NewT H Q ys) ∨ (SqT X.K H p ys ∧ Q (.ref p) H))) := fun pins s σ H xs us Q I r h => by
  obtain ⟨p, ys, rfl, h⟩ := h
  rcases h with ⟨hq, q⟩ | ⟨hq, q⟩
  · obtain ⟨u, rfl, rx⟩ := vals1 r
    cases rx
    obtain ⟨its, r', pl, hz⟩ := I.list hq
    refine call_tuple_list pl.isList (fun h' kp => ?_) (by rw [List.size_toArray, ← r'.length]; exact hz)
    have I1 : Inv X pins σ H { s with heap := h' } := I.kept (t' := s.toks) kp
    exact newP (s := { s with heap := h' }) (tk := s.toks) I1 r' hz q
  · exact call_tuple_of pins s σ H _ us Q I r ⟨p, ys, rfl, .inr ⟨hq, q⟩⟩
/-- tuple(range(..)) -/
def xTupRg (te : L2.St → Hp → (Int → Int → Hp → Prop) → Prop) : TE := fun σ H Q => te σ H fun a b H1 => RgOk a b ∧ NewT H1 Q (rgV a b)
theorem xe_tupRg {e : Expr} {te : L2.St → Hp → (Int → Int → Hp → Prop) → Prop} {p pos : Pos} (hc : X.calm = true) (hg : Gl X "tuple") (hm : X.mg "tuple" = none) (he : PRg X e te)
    (na : starEach [e] X.env = (false, eval e X.env) :: starEach [] X.env := by rfl) : PE X (.Call (.Name "tuple" p) [e] [] pos) (xTupRg te) :=
  ⟨fun pins s σ H Q I h => Call_ (ld_blt I hg hm boot_tuple (PyProof.Rows.callWith_type1 (args_cons (thn (he pins s σ H _ I h) fun x s1 ⟨r, a, b, t, u, v, H1, ex, hr, I1, ok, q⟩ => args_nil (by
    subst ex
    obtain ⟨b1, b2, b3, b4, b5⟩ := ok
    refine call_tuple_range (n := (b - a).toNat) (I1.ok.hd hc) hr (small_one b1 b2 b3 b4) (rangeSize_nat a b) b5 fun h' tk acc hk hi => ?_
    have I2 : Inv X pins σ H1 { s1 with heap := h', toks := tk } := I1.kept hk
    have e : acc = acc.toList.toArray := by simp
    have z : (rgV a b).length ≤ sizeLine := by rw [rgV_length, sizeLine_eq]; omega
    rw [e]
    exact newP (s := { s1 with heap := h', toks := tk }) I2 (vals_rg hi) z q)) na) na))⟩

/-! ### methods of such tuples -/
def TupX (K : PySem.W.Frag) (H : Hp) (a : Addr) (xs : List V) : Prop :=
  (∃ o, H a = some (.frz o (.tup xs)) ∧ o.dict = none) ∨ ∃ (o : Obj) (its : Array Value) (n : Nat), K.lookup a = some o ∧ o.cls = .type "tuple" ∧ o.dict = none ∧ o.data = .seq its n ∧ its.size ≤ sizeLine ∧ Vals xs its.toList
theorem TupX.t {K : PySem.W.Frag} {a : Addr} (h : TupX K H a xs) : SqT K H a xs := by
  rcases h with ⟨o, h, _⟩ | ⟨o, its, n, h1, h2, _, h3, h4, h5⟩
  · exact .inl (.inr ⟨o, h⟩)
  · exact .inr ⟨o, its, n, h1, h2, h3, h4, h5⟩
theorem TupX.is {a : Addr} (I : Inv X pins σ H s) (h : TupX X.K H a xs) : ∃ ob, s.heap.get? a = some ob ∧ ob.cls = .type "tuple" ∧ ob.dict = none := by
  rcases h with ⟨o, h, hd⟩ | ⟨o, its, n, h1, h2, hd, _⟩
  · obtain ⟨e, _, _, _, o', e', c, _⟩ := I.hok a _ h
    rw [e] at e'; cases e'
    exact ⟨o, e, c, hd⟩
  · exact ⟨o, I.kIn a o h1, h2, hd⟩
/-- t.m(..) -/
def xTm (K : PySem.W.Frag) (r : V → List V → Hp → VK → Prop) (to : TE) (t : TA) : TE := fun σ H Q => to σ H fun x H1 => (∃ a ys, x = .ref a ∧ TupX K H1 a ys) ∧ t σ H1 fun xs H2 => r x xs H2 Q
theorem xe_tm {o e : Expr} {es : List Expr} {to : TE} {t : TA} {name : Str} {apos cpos : Pos} {id : String} {r : V → List V → Hp → VK → Prop}
    (slot : Slot "tuple" name id) (hty : typeOf (.builtin id) = pure (.type "method_descriptor")) (hm : MtR X id r) (ho : PE X o to) (ha : PA X (e :: es) t)
    (hb : attributeBase o name X.env (eval o X.env) = eval o X.env := by rfl)
    (hf : ((backTo cpos (starEach (e :: es) X.env)).all (fun x => !x.1) && (backToKw cpos (keywordEach [] X.env)).all (fun x => x.1.isSome) && decide ((e :: es).length + ([] : List Keyword).length + (if ([] : List Keyword).isEmpty then 0 else 1) < 30)) = true := by rfl)
    (hl : (apos.endLine == cpos.line) = true := by rfl) (hs : starEach (e :: es) X.env = (false, eval e X.env) :: starEach es X.env := by rfl) (hp : (backTo cpos (starEach es X.env)).any (·.1) = false := by rfl) :
    PE X (.Call (.Attribute o name apos) (e :: es) [] cpos) (xTm X.K r to t) :=
  ⟨fun pins s σ H Q I h => wpAny_Call_method_late hb hf hl rfl (thn (ho.run pins s σ H _ I h) fun v s1 ⟨x, H1, I1, r1, ⟨a, ys, ea, ty⟩, q1⟩ => by
    subst ea
    cases r1
    obtain ⟨ob, e1, e2, e3⟩ := ty.is I1
    refine ⟨"tuple", id, PySem.F.plainAttrs_tuple, slot, hty, ⟨ob, e1, e2⟩, fun b z => ?_, ?_⟩
    · cases z; exact ⟨ob, e1, e3⟩
    · have hA := ha.run cpos pins s1 σ H1 _ I1 q1
      rw [hs] at hA ⊢
      exact Calls.callWith_builtin (by show (false || (backTo cpos (starEach es X.env)).any (·.1)) = false; rw [hp]; rfl) (Calls.evalArgs_plain (thn hA fun us s2 ⟨vs, H2, I2, r2, q2⟩ => hm pins s2 σ H2 (.ref a) vs _ us Q I2 rfl r2 q2)))⟩
/-- t.index(y): the first place of an equal one -/
def xIdx (K : PySem.W.Frag) : V → List V → Hp → VK → Prop := fun x xs H Q => ∃ (a : Addr) (y : V) (d : PyData) (ds : List PyData) (j : Nat) (z : PyData), x = .ref a ∧ xs = [y] ∧ Dp K H (.ref a) (.tuple ds) ∧ Dp K H y d ∧
  SeqAt.shaped (.tuple ds) = true ∧ SeqAt.shaped d = true ∧ ds[j]? = some z ∧ PyData.eqv z d = true ∧ (∀ (m : Nat) (z' : PyData), m < j → ds[m]? = some z' → PyData.eqv z' d = false) ∧ Q (.int (j : Nat)) H
theorem mx_index (hu : X.A.units + 65 < cLine) : MtR X "tuple.index" (xIdx X.K) := fun pins s σ H x xs v us Q I rx rxs ⟨a, y, d, ds, j, z, ex, exs, hl, hy, sl, sd, hz, hzj, hno, q⟩ => by
  subst ex exs
  cases rx
  obtain ⟨uy, rfl, ry⟩ := vals1 rxs
  obtain ⟨bs, r1⟩ := Dp.reads I d y uy hy ry
  have hxs : PyData.canLayAll0 ds = true := SeqAt.canLay_of_shaped sl
  have hroom : X.A.units + 1 + min (PyData.depthAll ds) d.depth < cLine := room_in_shaped sd hu
  cases hl with
  | tup hs ha =>
    obtain ⟨its, rv, ⟨⟨cls, dd, data, sls⟩, ho, hc, n, hdt⟩, hlen⟩ := I.tuple hs
    simp only at hc hdt
    subst hc hdt
    obtain ⟨as, h4⟩ := Dp.readsAll I ds _ its ha rv
    have hn : its.length = ds.length := SeqAt.ReadsAll.length ds its as h4
    have hmap : its.map (SeqAt.readOf s.heap) = ds := SeqAt.readsAll_map ds its as hxs h4
    obtain ⟨hjd, _⟩ := List.getElem?_eq_some_iff.mp hz
    have hj : j < its.toArray.size := by simpa [hn] using hjd
    have at_ : ∀ (m : Nat) (hm : m < its.toArray.size) (z' : PyData), ds[m]? = some z' → SeqAt.readOf s.heap its.toArray[m] = z' := fun m hm z' hz' => by
      have hml : m < its.length := by simpa using hm
      rw [← hmap, List.getElem?_map, List.getElem?_eq_getElem hml] at hz'
      simpa using Option.some.inj (show some (SeqAt.readOf s.heap its[m]) = some z' from hz')
    refine call_meets PySem.F.slot_tuple_index ⟨_, ho, rfl⟩ PySem.F.entry_tuple_index (PySem.F.args_tuple_index_2 _ _)
      (_root_.TI.tuple_indexAt a its.toArray n dd sls uy (fun u => PyData.eqv (SeqAt.readOf s.heap u) d) j hj (by
        show PyData.eqv (SeqAt.readOf s.heap its.toArray[j]) d = true
        rw [at_ j hj z hz]; exact hzj) fun m hm hmj => by
          have hmd : m < ds.length := by omega
          show PyData.eqv (SeqAt.readOf s.heap its.toArray[m]) d = false
          rw [at_ m hm _ (List.getElem?_eq_getElem hmd)]
          exact hno m _ hmj (List.getElem?_eq_getElem hmd))
      ⟨ho, SeqAt.items_eqAt (vs := its.toArray) (show ReadsAll s.heap its.toArray.toList ds as from h4) r1 hxs (SeqAt.canLay_of_shaped sd) hroom, ⟨.int (j : Nat), H, I.tok _, ⟨_, rfl⟩, q⟩⟩
end
end Pm

set_option Elab.async false
set_option linter.all false
set_option maxRecDepth 100000
/-! Pm1: plain data D, worlds, what stands for what. -/
namespace Pm
open PySem PySem.Spec PyProof.Rows L2

/-- plain data: lists, dicts, instances as values that do not change -/
inductive D where
  | non | bl (b : Bool) | int (i : Int) | str (s : Str)
  | tup (ds : List D)
  /-- a pair that is unpacked at once -/
  | tpl (ds : List D) | lst (ds : List D)
  | dct (ks : List Key) (ds : List D)
  | obj (c : Str) (ns : List Str) (ds : List D)
  /-- the script, locked -/
  | scr (ns : List Int)
  | ref (l : Nat)
  /-- a lambda: its object, its code object, its code's name; what it has captured -/
  | fn (f c : Addr) (q : Str) (vs : List V) (ds : List D)

/-- a shared thing that changes: a list; an instance -/
inductive O where
  | lst (ds : List D)
  | ins (c : Str) (ns : List Str) (ds : List D)
  /-- a dict that changes -/
  | dic (ks : List Key) (ds : List D)
  /-- a dict whose keys are nested tuples of ints -/
  | tic (b : List (D × D))
  /-- the table of code objects of the def x -/
  | tab (x : Str)

structure Wd where
  Z : Hp
  r : Nat → Addr
  n : Nat

/-- a locked list of ints, or one of the module's own -/
def SqS (K : PySem.W.Frag) (Z : Hp) (a : Addr) (ns : List Int) : Prop :=
  (∃ o, Z a = some (.frz o (.lst (ns.map V.int)))) ∨ ∃ (o : Obj) (its : Array Value) (n : Nat), K.lookup a = some o ∧ o.cls = .type "list" ∧ o.dict = none ∧ o.data = .seq its n ∧ its.size ≤ sizeLine ∧ Vals (ns.map V.int) its.toList
theorem SqS.mono {K : PySem.W.Frag} {Z Z' : Hp} {a : Addr} {ns : List Int} (h : SqS K Z a ns) (k : ∀ o, Z a = some (.frz o (.lst (ns.map V.int))) → Z' a = some (.frz o (.lst (ns.map V.int)))) : SqS K Z' a ns := by
  rcases h with ⟨o, h⟩ | h
  · exact .inl ⟨o, k o h⟩
  · exact .inr h
theorem SqS.l {K : PySem.W.Frag} {Z : Hp} {a : Addr} {ns : List Int} (h : SqS K Z a ns) : SqL K Z a (ns.map V.int) := by
  rcases h with ⟨o, h⟩ | h
  · exact .inl (.inr ⟨o, h⟩)
  · exact .inr h
variable (K : PySem.W.Frag) (mg : Str → Option Value)
mutual
inductive IsV (W : Wd) : V → D → Prop
  | non : IsV W .non .non
  | bl (b : Bool) : IsV W (.bl b) (.bl b)
  | int (i : Int) : IsV W (.int i) (.int i)
  | str (s : Str) : IsV W (.str s) (.str s)
  | tup {a : Addr} {vs : List V} {ds : List D} : TupX K W.Z a vs → IsVs W vs ds → IsV W (.ref a) (.tup ds)
  | tpl {a : Addr} {vs : List V} {ds : List D} : SqT K W.Z a vs → IsVs W vs ds → IsV W (.ref a) (.tpl ds)
  | lst {a : Addr} {vs : List V} {ds : List D} : W.Z a = some (.lst vs) → IsVs W vs ds → IsV W (.ref a) (.lst ds)
  | scr {a : Addr} {ns : List Int} : SqS K W.Z a ns → IsV W (.ref a) (.scr ns)
  | dct {a : Addr} {kvs : List (Key × V)} {ks : List Key} {ds : List D} : W.Z a = some (.dK kvs) → ks = kvs.map (·.1) → IsVs W (kvs.map (·.2)) ds → IsV W (.ref a) (.dct ks ds)
  | obj {a C dx : Addr} {fs : List (Str × V)} {c : Str} {ns : List Str} {ds : List D} : W.Z a = some (.ins C dx fs) → mg c = some (.ref C) → ns = fs.map (·.1) → IsVs W (fs.map (·.2)) ds → IsV W (.ref a) (.obj c ns ds)
  | ref {l : Nat} : l < W.n → IsV W (.ref (W.r l)) (.ref l)
  | fn {f c : Addr} {q : Str} {vs : List V} {ds : List D} : W.Z c = some (LamX.CodeO c q) → IsVs W vs ds → IsV W (.ref f) (.fn f c q vs ds)
inductive IsVs (W : Wd) : List V → List D → Prop
  | nil : IsVs W [] []
  | cons {v : V} {vs : List V} {d : D} {ds : List D} : IsV W v d → IsVs W vs ds → IsVs W (v :: vs) (d :: ds)
end

structure Wd.le (W W' : Wd) : Prop where
  z : ∀ a o, W.Z a = some o → W'.Z a = some o
  n : W.n ≤ W'.n
  r : ∀ l, l < W.n → W'.r l = W.r l
theorem Wd.le.refl (W : Wd) : W.le W := ⟨fun _ _ h => h, Nat.le_refl _, fun _ _ => rfl⟩
theorem Wd.le.trans {A B C : Wd} (h : A.le B) (k : B.le C) : A.le C :=
  ⟨fun a o e => k.z a o (h.z a o e), Nat.le_trans h.n k.n, fun l hl => (k.r l (Nat.lt_of_lt_of_le hl h.n)).trans (h.r l hl)⟩

theorem Rd.mono {Z Z' : Hp} (h : ∀ a o, Z a = some o → Z' a = some o) {a : Addr} {u : HO} (r : Rd Z a u) : Rd Z' a u := by
  rcases r with r | ⟨o, r⟩
  · exact .inl (h _ _ r)
  · exact .inr ⟨o, h _ _ r⟩
theorem SqT.mono {Z Z' : Hp} (h : ∀ a o, Z a = some o → Z' a = some o) {a : Addr} {vs : List V} (r : SqT K Z a vs) : SqT K Z' a vs := by
  rcases r with r | r
  · exact .inl (Rd.mono h r)
  · exact .inr r
theorem TupX.mono {Z Z' : Hp} (h : ∀ a o, Z a = some o → Z' a = some o) {a : Addr} {vs : List V} (r : TupX K Z a vs) : TupX K Z' a vs := by
  rcases r with ⟨o, r, d⟩ | r
  · exact .inl ⟨o, h _ _ r, d⟩
  · exact .inr r
theorem SqL.mono {Z Z' : Hp} (h : ∀ a o, Z a = some o → Z' a = some o) {a : Addr} {vs : List V} (r : SqL K Z a vs) : SqL K Z' a vs := by
  rcases r with r | r
  · exact .inl (Rd.mono h r)
  · exact .inr r
variable {K mg}
section
variable {W W' : Wd}
mutual
theorem IsV.mono (h : W.le W') : ∀ {v : V} {d : D}, IsV K mg W v d → IsV K mg W' v d
  | _, _, .non => .non
  | _, _, .bl b => .bl b
  | _, _, .int i => .int i
  | _, _, .str s => .str s
  | _, _, .tup a b => .tup (TupX.mono K h.z a) (IsVs.mono h b)
  | _, _, .tpl a b => .tpl (SqT.mono K h.z a) (IsVs.mono h b)
  | _, _, .lst a b => .lst (h.z _ _ a) (IsVs.mono h b)
  | _, _, .scr a => .scr (a.mono fun _ => h.z _ _)
  | _, _, .dct a e b => .dct (h.z _ _ a) e (IsVs.mono h b)
  | _, _, .obj a c e b => .obj (h.z _ _ a) c e (IsVs.mono h b)
  | _, _, .ref hl => by rw [← h.r _ hl]; exact .ref (Nat.lt_of_lt_of_le hl h.n)
  | _, _, .fn e b => .fn (h.z _ _ e) (IsVs.mono h b)
theorem IsVs.mono (h : W.le W') : ∀ {vs : List V} {ds : List D}, IsVs K mg W vs ds → IsVs K mg W' vs ds
  | _, _, .nil => .nil
  | _, _, .cons a b => .cons (IsV.mono h a) (IsVs.mono h b)
end
theorem IsVs.length : ∀ {vs : List V} {ds : List D}, IsVs K mg W vs ds → vs.length = ds.length
  | _, _, .nil => rfl
  | _, _, .cons _ b => congrArg (· + 1) (IsVs.length b)
theorem IsVs.append : ∀ {vs ws : List V} {ds es : List D}, IsVs K mg W vs ds → IsVs K mg W ws es → IsVs K mg W (vs ++ ws) (ds ++ es)
  | _, _, _, _, .nil, h => h
  | _, _, _, _, .cons a b, h => .cons a (IsVs.append b h)
theorem IsVs.get : ∀ {vs : List V} {ds : List D} {i : Nat} {d : D}, IsVs K mg W vs ds → ds[i]? = some d → ∃ v, vs[i]? = some v ∧ IsV K mg W v d
  | _, _, _, _, .nil, e => by simp at e
  | _, _, 0, _, .cons a _, e => by simp at e; subst e; exact ⟨_, rfl, a⟩
  | _, _, i + 1, _, .cons _ b, e => by
    obtain ⟨v, h1, h2⟩ := IsVs.get (i := i) b (by simpa using e)
    exact ⟨v, by simpa using h1, h2⟩
theorem IsVs.get' : ∀ {vs : List V} {ds : List D} {i : Nat} {v : V}, IsVs K mg W vs ds → vs[i]? = some v → ∃ d, ds[i]? = some d ∧ IsV K mg W v d
  | _, _, _, _, .nil, e => by simp at e
  | _, _, 0, _, .cons a _, e => by simp at e; subst e; exact ⟨_, rfl, a⟩
  | _, _, i + 1, _, .cons _ b, e => by
    obtain ⟨v, h1, h2⟩ := IsVs.get' (i := i) b (by simpa using e)
    exact ⟨v, by simpa using h1, h2⟩
theorem IsVs.set : ∀ {vs : List V} {ds : List D} {i : Nat} {v : V} {d : D}, IsVs K mg W vs ds → IsV K mg W v d → IsVs K mg W (vs.set i v) (ds.set i d)
  | _, _, _, _, _, .nil, _ => .nil
  | _, _, 0, _, _, .cons _ b, h => .cons h b
  | _, _, i + 1, _, _, .cons a b, h => .cons a (IsVs.set (i := i) b h)
theorem IsVs.take : ∀ {vs : List V} {ds : List D} (n : Nat), IsVs K mg W vs ds → IsVs K mg W (vs.take n) (ds.take n)
  | _, _, 0, _ => .nil
  | _, _, _ + 1, .nil => .nil
  | _, _, n + 1, .cons a b => .cons a (IsVs.take n b)
theorem IsVs.drop : ∀ {vs : List V} {ds : List D} (n : Nat), IsVs K mg W vs ds → IsVs K mg W (vs.drop n) (ds.drop n)
  | _, _, 0, h => h
  | _, _, _ + 1, .nil => .nil
  | _, _, n + 1, .cons _ b => IsVs.drop n b
theorem IsVs.ints : ∀ {ns : List Int} {vs : List V}, IsVs K mg W vs (ns.map D.int) → vs = ns.map V.int
  | [], _, .nil => rfl
  | _ :: _, _, .cons (.int _) b => by rw [IsVs.ints b]; rfl
theorem IsVs.bls : ∀ {ns : List Bool} {vs : List V}, IsVs K mg W vs (ns.map D.bl) → vs = ns.map V.bl
  | [], _, .nil => rfl
  | _ :: _, _, .cons (.bl _) b => by rw [IsVs.bls b]; rfl
theorem IsVs.of_ints : ∀ (ns : List Int), IsVs K mg W (ns.map V.int) (ns.map D.int)
  | [] => .nil
  | n :: r => .cons (.int n) (IsVs.of_ints r)
end

/-! ### the state -/
mutual
def D.pure : D → Bool
  | .lst _ => false
  | .dct _ _ => false
  | .tup ds => D.pures ds
  | .tpl ds => D.pures ds
  | .obj _ _ ds => D.pures ds
  | .fn _ _ _ _ ds => D.pures ds
  | _ => true
def D.pures : List D → Bool
  | [] => true
  | d :: ds => d.pure && D.pures ds
end
/-- the table at a: each code object in it bears the name q -/
def TabW (W : Wd) (H : Hp) (a : Addr) (q : Str) : Prop := ∃ ps : Array Value, H a = some (.tbl ps) ∧ TriplesOk ps.toList ∧ ∀ (pos : Pos) (cv : Value), codeAmong pos ps.toList = some cv → ∃ c, cv = .ref c ∧ W.Z c = some (LamX.CodeO c q)
theorem TabW.mono {W W' : Wd} {H H' : Hp} {a : Addr} {q : Str} (t : TabW W H a q) (hz : ∀ c, W.Z c = some (LamX.CodeO c q) → W'.Z c = some (LamX.CodeO c q)) (he : H' a = H a) : TabW W' H' a q := by
  obtain ⟨ps, h1, h2, h3⟩ := t
  exact ⟨ps, he.trans h1, h2, fun pos cv hc => (h3 pos cv hc).imp fun c hh => ⟨hh.1, hz c hh.2⟩⟩

mutual
def D.nk : D → Option NestedKey
  | .int i => some (.num i)
  | .tup ds => (D.nks ds).map .tup
  | _ => none
def D.nks : List D → Option (List NestedKey)
  | [] => some []
  | d :: r => match D.nk d, D.nks r with
    | some k, some ks => some (k :: ks)
    | _, _ => none
end
/-- a dict with such keys: their own objects, the very values -/
def TicO (a : Addr) (xs : List (NestedKey × Addr × Value)) : HO :=
  .ext fun h => ∃ o es ep, h.get? a = some o ∧ o.ExactDict ∧ o.data = .dict es ep ∧ ∀ w : World, es.toList = xs.map fun x => ⟨x.1.hash w, .ref x.2.1, x.2.2⟩
inductive TicR (K : PySem.W.Frag) (mg : Str → Option Value) (W : Wd) : List (NestedKey × Addr × Value) → List (D × D) → Prop
  | nil : TicR K mg W [] []
  | cons {k : NestedKey} {a : Addr} {u : Value} {v : V} {d e : D} {xs : List (NestedKey × Addr × Value)} {b : List (D × D)} : D.nk d = some k → k.depth ≤ 8 → IsV K mg W (.ref a) d → d.pure = true → RelV v u → IsV K mg W v e → e.pure = true → TicR K mg W xs b → TicR K mg W ((k, a, u) :: xs) ((d, e) :: b)
theorem TicR.mono {W W' : Wd} (h : W.le W') {xs : List (NestedKey × Addr × Value)} {b : List (D × D)} (r : TicR K mg W xs b) : TicR K mg W' xs b := by
  induction r with
  | nil => exact .nil
  | cons a b c c2 d e f _ ih => exact .cons a b (c.mono h) c2 d (e.mono h) f ih
theorem TicR.imp {W W' : Wd} {P : D → Prop} (f : ∀ v d, IsV K mg W v d → d.pure = true → P d → IsV K mg W' v d) {xs : List (NestedKey × Addr × Value)} {b : List (D × D)} (r : TicR K mg W xs b) (h : ∀ q ∈ b, P q.1 ∧ P q.2) : TicR K mg W' xs b := by
  induction r with
  | nil => exact .nil
  | cons a b c c2 d e g _ ih => exact .cons a b (f _ _ c c2 (h _ (List.mem_cons_self ..)).1) c2 d (f _ _ e g (h _ (List.mem_cons_self ..)).2) g (ih fun q hq => h q (List.mem_cons_of_mem _ hq))
theorem TicR.all {W : Wd} {P : D → Prop} (f : ∀ v d, IsV K mg W v d → P d) {xs : List (NestedKey × Addr × Value)} {b : List (D × D)} (r : TicR K mg W xs b) : ∀ q ∈ b, P q.1 ∧ P q.2 := by
  induction r with
  | nil => intro q hq; cases hq
  | cons a b c c2 d e g _ ih =>
    intro q hq
    rcases List.mem_cons.mp hq with rfl | hq
    · exact ⟨f _ _ c, f _ _ e⟩
    · exact ih q hq
def lamQ (x : Str) : Str := (x ++ ".<locals>.") ++ "<lambda>"
def ORel (K : PySem.W.Frag) (mg : Str → Option Value) (W : Wd) (H : Hp) (a : Addr) : O → Prop
  | .lst ds => ∃ vs, H a = some (.lst vs) ∧ IsVs K mg W vs ds ∧ D.pures ds = true
  | .ins c ns ds => ∃ C dx fs, H a = some (.ins C dx fs) ∧ mg c = some (.ref C) ∧ ns = fs.map (·.1) ∧ IsVs K mg W (fs.map (·.2)) ds ∧ D.pures ds = true
  | .dic ks ds => ∃ kvs : List (Key × V), H a = some (.dK kvs) ∧ ks = kvs.map (·.1) ∧ IsVs K mg W (kvs.map (·.2)) ds ∧ D.pures ds = true
  | .tic b => ∃ xs, H a = some (TicO a xs) ∧ (a == sysModules) = false ∧ xs.length ≤ sizeLine ∧ TicR K mg W xs b ∧ (xs.map (·.1)).Nodup
  | .tab x => (∃ c, PySem.W.tabIn K x = some (c, a)) ∧ TabW W H a (lamQ x)

structure StRel (K : PySem.W.Frag) (mg : Str → Option Value) (W : Wd) (S : List O) (H : Hp) : Prop where
  len : W.n = S.length
  zh : ∀ a o, W.Z a = some o → H a = some o
  zr : ∀ l, l < W.n → W.Z (W.r l) = none
  inj : ∀ l l', l < W.n → l' < W.n → W.r l = W.r l' → l = l'
  ob : ∀ l o, S[l]? = some o → ORel K mg W H (W.r l) o

structure Frame (W W' : Wd) (H H' : Hp) : Prop where
  kp : ∀ a o, H a = some o → (∀ l, l < W.n → W.r l ≠ a) → H' a = some o
  fr : ∀ l, W.n ≤ l → l < W'.n → H (W'.r l) = none
  fz : ∀ a o, W'.Z a = some o → W.Z a = some o ∨ H a = none
theorem Frame.refl (W : Wd) (H : Hp) : Frame W W H H := ⟨fun _ _ h _ => h, fun l h k => absurd (Nat.lt_of_lt_of_le k h) (Nat.lt_irrefl _), fun _ _ h => .inl h⟩
theorem ORel.some {W : Wd} {H : Hp} {a : Addr} {o : O} (h : ORel K mg W H a o) : ∃ u, H a = some u := by
  cases o with
  | lst ds => obtain ⟨vs, e, _⟩ := h; exact ⟨_, e⟩
  | ins c ns ds => obtain ⟨C, dx, fs, e, _⟩ := h; exact ⟨_, e⟩
  | dic ks ds => obtain ⟨kvs, e, _⟩ := h; exact ⟨_, e⟩
  | tic b => obtain ⟨xs, e, _⟩ := h; exact ⟨_, e⟩
  | tab x => obtain ⟨_, ps, e, _⟩ := h; exact ⟨_, e⟩
theorem StRel.at {W : Wd} {S : List O} {H : Hp} (s : StRel K mg W S H) {l : Nat} (hl : l < W.n) : ∃ u, H (W.r l) = some u := by
  have h : l < S.length := by rw [← s.len]; exact hl
  exact (s.ob l _ (List.getElem?_eq_getElem h)).some
/-- what is tracked stays tracked -/
theorem Frame.tr {W W' : Wd} {S' : List O} {H H' : Hp} (f : Frame W W' H H') (hle : W.le W') (s' : StRel K mg W' S' H') {a : Addr} (h : H' a = none) : H a = none := by
  cases q : H a with
  | none => rfl
  | some o =>
    by_cases hr : ∃ l, l < W.n ∧ W.r l = a
    · obtain ⟨l, hl, e⟩ := hr
      obtain ⟨u, hu⟩ := s'.at (Nat.lt_of_lt_of_le hl hle.n)
      rw [hle.r l hl, e, h] at hu
      cases hu
    · have := f.kp a o q (fun l hl e => hr ⟨l, hl, e⟩)
      rw [h] at this; cases this
theorem Frame.trans {W W1 W2 : Wd} {S S1 : List O} {H H1 H2 : Hp} (s : StRel K mg W S H) (s1 : StRel K mg W1 S1 H1) (a : Frame W W1 H H1) (la : W.le W1) (b : Frame W1 W2 H1 H2) (lb : W1.le W2) : Frame W W2 H H2 := by
  refine ⟨fun c o e hc => ?_, fun l h1 h2 => ?_, fun c o e => ?_⟩
  · refine b.kp c o (a.kp c o e hc) fun l hl q => ?_
    by_cases hn : l < W.n
    · exact hc l hn (by rw [← la.r l hn]; exact q)
    · have := a.fr l (Nat.le_of_not_lt hn) hl
      rw [q, e] at this; cases this
  · by_cases hn : l < W1.n
    · rw [lb.r l hn]; exact a.fr l h1 hn
    · exact a.tr la s1 (b.fr l (Nat.le_of_not_lt hn) h2)
  · rcases b.fz c o e with e1 | e1
    · exact a.fz c o e1
    · exact .inr (a.tr la s1 e1)

/-! ### readings of expressions -/
abbrev Env := List (Option D)
abbrev M (α : Type) := List O → Option (α × List O)
def ret {α : Type} (a : α) : M α := fun S => some (a, S)
def bnd {α β : Type} (m : M α) (f : α → M β) : M β := fun S => match m S with
  | some (a, S1) => f a S1
  | none => none
def stuck {α : Type} : M α := fun _ => none
def lift {α : Type} (x : Option α) : M α := fun S => x.map fun a => (a, S)
theorem bnd_some {α β : Type} {m : M α} {f : α → M β} {S : List O} {r : β × List O} (h : bnd m f S = some r) : ∃ a S1, m S = some (a, S1) ∧ f a S1 = some r := by
  unfold bnd at h
  split at h
  · rename_i a S1 e; exact ⟨a, S1, e, h⟩
  · cases h

def ERel (K : PySem.W.Frag) (mg : Str → Option Value) (W : Wd) (env : Env) (σ : L2.St) : Prop :=
  env.length = σ.length ∧ ∀ (i : Nat) (d : D), env[i]? = some (some d) → ∃ v, σ[i]? = some (some v) ∧ IsV K mg W v d
theorem ERel.mono {W W' : Wd} {env : Env} {σ : L2.St} (h : W.le W') (e : ERel K mg W env σ) : ERel K mg W' env σ := ⟨e.1, fun i d q => by
  obtain ⟨v, h1, h2⟩ := e.2 i d q
  exact ⟨v, h1, h2.mono h⟩⟩
def Go (K : PySem.W.Frag) (mg : Str → Option Value) (W : Wd) (H : Hp) (S' : List O) (d : D) (Q : VK) : Prop :=
  ∀ W' v H', W.le W' → Frame W W' H H' → StRel K mg W' S' H' → IsV K mg W' v d → Q v H'
theorem Go.step {W W1 : Wd} {S S1 S2 : List O} {H H1 : Hp} {d : D} {Q : VK} (s : StRel K mg W S H) (le1 : W.le W1) (f1 : Frame W W1 H H1) (s1 : StRel K mg W1 S1 H1) (g : Go K mg W H S2 d Q) : Go K mg W1 H1 S2 d Q :=
  fun W' v H' le f s' i => g W' v H' (le1.trans le) (f1.trans s s1 le1 f le) s' i
def tE (K : PySem.W.Frag) (mg : Str → Option Value) (m : Env → M D) : TE := fun σ H Q =>
  ∃ (W : Wd) (env : Env) (S : List O), ERel K mg W env σ ∧ StRel K mg W S H ∧ ∃ d S', m env S = some (d, S') ∧ Go K mg W H S' d Q
/-- the expression e denotes m -/
structure Dn (X : Cx) (e : Expr) (m : Env → M D) : Prop where
  pe : PE X e (tE X.K X.mg m)
theorem PE.mono {X : Cx} {e : Expr} {t t' : TE} (h : PE X e t) (k : ∀ σ H Q, t' σ H Q → t σ H Q) : PE X e t' := ⟨fun pins s σ H Q I q => h.run pins s σ H Q I (k σ H Q q)⟩

section
variable {X : Cx} {pos : Pos}
theorem Go.here {W : Wd} {S : List O} {H : Hp} {d : D} {Q : VK} {v : V} (g : Go K mg W H S d Q) (s : StRel K mg W S H) (i : IsV K mg W v d) : Q v H :=
  g W v H (.refl _) (.refl _ _) s i
/-- constants -/
theorem dn_int {i j} : Dn X (.Constant (.int i) j pos) (fun _ => ret (.int i)) := ⟨PE.mono pe_int fun σ H Q ⟨W, env, S, e, s, d, S', h, g⟩ => by
  cases h; exact g.here s (.int _)⟩
theorem dn_bl {i j} : Dn X (.Constant (.bool i) j pos) (fun _ => ret (.bl i)) := ⟨PE.mono pe_bl fun σ H Q ⟨W, env, S, e, s, d, S', h, g⟩ => by
  cases h; exact g.here s (.bl _)⟩
theorem dn_non {j} : Dn X (.Constant .none j pos) (fun _ => ret .non) := ⟨PE.mono pe_non fun σ H Q ⟨W, env, S, e, s, d, S', h, g⟩ => by
  cases h; exact g.here s .non⟩
theorem dn_str {i j} : Dn X (.Constant (.str i) j pos) (fun _ => ret (.str i)) := ⟨PE.mono pe_str fun σ H Q ⟨W, env, S, e, s, d, S', h, g⟩ => by
  cases h; exact g.here s (.str _)⟩
/-- names -/
def getv (i : Nat) (env : Env) : M D := lift (env[i]?.join)
theorem dn_var (i : Nat) {x : Str} (hN : X.N[i]? = some x := by rfl) (hv : Vis X.env.scope x := by first | exact Or.inl rfl | exact Or.inr (Or.inl rfl) | exact Or.inr (Or.inr rfl)) (hd : (x == ("__debug__" : Str)) = false := by decide)
    (hcd : (x == ("__classdict__" : Str)) = false := by decide) : Dn X (.Name x pos) (getv i) := ⟨PE.mono (pe_var hN hv hd hcd) fun σ H Q ⟨W, env, S, e, s, d, S', h, g⟩ => by
  unfold getv lift at h
  cases q : env[i]? with
  | none => rw [q] at h; cases h
  | some o =>
    cases o with
    | none => rw [q] at h; cases h
    | some d' =>
      rw [q] at h
      cases h
      obtain ⟨v, h1, h2⟩ := e.2 i _ q
      exact ⟨v, h1, g.here s h2⟩⟩
end
end Pm

set_option Elab.async false
set_option linter.all false
set_option maxRecDepth 100000
set_option maxHeartbeats 600000
/-! Pm2: operators, subscripts, built-ins. -/
namespace Pm
open PySem PySem.Spec PyProof.Rows L2

section
variable {K : PySem.W.Frag} {mg : Str → Option Value} {W W' : Wd} {S S' : List O} {H H' : Hp} {d : D} {Q : VK} {p : Addr} {o : HO}
theorem ORel.mono (le : W.le W') {a : Addr} (e : H' a = H a) {u : O} (h : ORel K mg W H a u) : ORel K mg W' H' a u := by
  cases u with
  | lst ds => obtain ⟨vs, h1, h2, h3⟩ := h; exact ⟨vs, e.trans h1, h2.mono le, h3⟩
  | ins c ns ds => obtain ⟨C, dx, fs, h1, h2, h3, h4, h5⟩ := h; exact ⟨C, dx, fs, e.trans h1, h2, h3, h4.mono le, h5⟩
  | dic ks ds => obtain ⟨kvs, h1, h2, h3, h4⟩ := h; exact ⟨kvs, e.trans h1, h2, h3.mono le, h4⟩
  | tic b => obtain ⟨xs, h1, h2, h3, h4, h5⟩ := h; exact ⟨xs, e.trans h1, h2, h3, h4.mono le, h5⟩
  | tab x => exact ⟨h.1, h.2.mono (fun _ => le.z _ _) e⟩
abbrev Wd.add (W : Wd) (p : Addr) (o : HO) : Wd := { W with Z := upd W.Z p o }
theorem Wd.add_le (s : StRel K mg W S H) (hp : H p = none) : W.le (W.add p o) := ⟨fun a u e => by
  show upd W.Z p o a = some u
  rw [upd_ne (ne_of_none (s.zh _ _ e) hp)]; exact e, Nat.le_refl _, fun _ _ => rfl⟩
theorem Frame.add (s : StRel K mg W S H) (hp : H p = none) : Frame W (W.add p o) H (upd H p o) :=
  ⟨fun a u e _ => by rw [upd_ne (ne_of_none e hp)]; exact e, fun l h k => absurd (Nat.lt_of_lt_of_le k h) (Nat.lt_irrefl _), fun a u e => by
    by_cases ha : a = p
    · rw [ha]; exact .inr hp
    · have e : upd W.Z p o a = some u := e
      rw [upd_ne ha] at e; exact .inl e⟩
theorem StRel.ne (s : StRel K mg W S H) (hp : H p = none) {l : Nat} (hl : l < W.n) : W.r l ≠ p := fun e => by
  obtain ⟨u, hu⟩ := s.at hl
  rw [e, hp] at hu; cases hu
theorem StRel.add (s : StRel K mg W S H) (hp : H p = none) : StRel K mg (W.add p o) S (upd H p o) := by
  refine ⟨s.len, fun a u e => ?_, fun l hl => ?_, s.inj, fun l u e => ?_⟩
  · have e : upd W.Z p o a = some u := e
    by_cases ha : a = p
    · rw [ha] at e ⊢; rw [upd_same] at e ⊢; exact e
    · rw [upd_ne ha] at e ⊢; exact s.zh _ _ e
  · show upd W.Z p o (W.r l) = none
    rw [upd_ne (s.ne hp hl)]; exact s.zr l hl
  · have hl : l < W.n := by rw [s.len]; exact (List.getElem?_eq_some_iff.mp e).1
    exact (s.ob l u e).mono (Wd.add_le s hp) (by show upd H p o (W.r l) = _; rw [upd_ne (s.ne hp hl)])
/-- a new object of a value -/
theorem Go.fresh (g : Go K mg W H S d Q) (s : StRel K mg W S H) (hp : H p = none) (hi : IsV K mg (W.add p o) (.ref p) d) : Q (.ref p) (upd H p o) :=
  g _ _ _ (Wd.add_le s hp) (Frame.add s hp) (s.add hp) hi
theorem Go.tup {ds : List D} {vs : List V} (g : Go K mg W H S (.tup ds) Q) (s : StRel K mg W S H) (i : IsVs K mg W vs ds) : NewT H Q vs := fun ob p hd hp =>
  g.fresh s hp (.tup (.inl ⟨ob, upd_same, hd⟩) (i.mono (Wd.add_le s hp)))
theorem Go.tpl {ds : List D} {vs : List V} (g : Go K mg W H S (.tpl ds) Q) (s : StRel K mg W S H) (i : IsVs K mg W vs ds) (hp : H p = none) : Q (.ref p) (upd H p (.tup vs)) :=
  g.fresh s hp (.tpl (SqT.of (K := K) (H := (W.add p (.tup vs)).Z) upd_same) (i.mono (Wd.add_le s hp)))
theorem Go.lst {ds : List D} {vs : List V} (g : Go K mg W H S (.lst ds) Q) (s : StRel K mg W S H) (i : IsVs K mg W vs ds) (hp : H p = none) : Q (.ref p) (upd H p (.lst vs)) :=
  g.fresh s hp (.lst upd_same (i.mono (Wd.add_le s hp)))
theorem TupX.up (s : StRel K mg W S H) {a : Addr} {vs : List V} (h : TupX K W.Z a vs) : SqT K H a vs := SqT.mono K s.zh h.t
theorem SqT.up (s : StRel K mg W S H) {a : Addr} {vs : List V} (h : SqT K W.Z a vs) : SqT K H a vs := SqT.mono K s.zh h
end

/-! ### two-place operations -/
def RS2 (K : PySem.W.Frag) (mg : Str → Option Value) (r : R2) (f : D → D → M D) : Prop :=
  ∀ (W : Wd) (S : List O) (H : Hp) (x y : V) (d e z : D) (S' : List O) (Q : VK), StRel K mg W S H → IsV K mg W x d → IsV K mg W y e → f d e S = some (z, S') → Go K mg W H S' z Q → r x y H Q
section
variable {X : Cx} {a b : Expr} {ma mb : Env → M D} {pos : Pos} {f : D → D → M D} {r r' : R2}
def bin (f : D → D → M D) (ma mb : Env → M D) : Env → M D := fun env => bnd (ma env) fun x => bnd (mb env) fun y => f x y
theorem run2 {σ : L2.St} {H : Hp} {Q : VK} (hs : RS2 X.K X.mg r f) (h : tE X.K X.mg (bin f ma mb) σ H Q) : tOp r (tE X.K X.mg ma) (tE X.K X.mg mb) σ H Q := by
  obtain ⟨W, env, S, e, s, d, S', h, g⟩ := h
  obtain ⟨x, S1, h1, h⟩ := bnd_some h
  obtain ⟨y, S2, h2, h⟩ := bnd_some h
  refine ⟨W, env, S, e, s, x, S1, h1, fun W1 v1 H1 le1 f1 s1 i1 => ?_⟩
  refine ⟨W1, env, S1, e.mono le1, s1, y, S2, h2, fun W2 v2 H2 le2 f2 s2 i2 => ?_⟩
  exact hs W2 S2 H2 v1 v2 x y d S' Q s2 (i1.mono le2) i2 h ((g.step s le1 f1 s1).step s1 le2 f2 s2)
theorem dn_op {op : Operator} (ho : OpR X (binaryOp op) r) (hs : RS2 X.K X.mg r f) (ha : Dn X a ma) (hb : Dn X b mb) : Dn X (.BinOp a op b pos) (bin f ma mb) :=
  ⟨PE.mono (pe_op ho ha.pe hb.pe) fun _ _ _ h => run2 hs h⟩
theorem dn_cmp {op : CmpOp} (ho : OpR X (compareOp op) r) (hs : RS2 X.K X.mg r f) (ha : Dn X a ma) (hb : Dn X b mb) (hm : behindInMarks op b = false) : Dn X (.Compare a [op] [b] pos) (bin f ma mb) :=
  ⟨PE.mono (pe_cmpR ho ha.pe hb.pe hm) fun _ _ _ h => run2 hs h⟩
theorem dn_ix (ho : IxR X r) (hs : RS2 X.K X.mg r f) (ha : Dn X a ma) (hb : Dn X b mb) (hm : PlainIx b) : Dn X (.Subscript a b pos) (bin f ma mb) :=
  ⟨PE.mono (pe_ix ho ha.pe hb.pe hm) fun _ _ _ h => run2 hs h⟩
theorem RS2.or {K : PySem.W.Frag} {mg : Str → Option Value} {g : D → D → M D} (h : RS2 K mg r f) (h' : RS2 K mg r' g) : RS2 K mg (fun x y H Q => r x y H Q ∨ r' x y H Q) (fun x y S => (f x y S).or (g x y S)) := fun W S H x y d e z S' Q s i j q k => by
  have q : (f d e S).or (g d e S) = some (z, S') := q
  cases c : f d e S with
  | some w => rw [c] at q; exact .inl (h W S H x y d e z S' Q s i j (c.trans q) k)
  | none => rw [c] at q; exact .inr (h' W S H x y d e z S' Q s i j q k)

/-! ints -/
def int2 (C : Int → Int → Prop) [∀ i j, Decidable (C i j)] (g : Int → Int → D) : D → D → M D
  | .int i, .int j => if C i j then ret (g i j) else stuck
  | _, _ => stuck
def vOf : D → V
  | .int i => .int i
  | .bl b => .bl b
  | _ => .non
theorem isV_vOf_int {K : PySem.W.Frag} {mg : Str → Option Value} {W : Wd} (i : Int) : IsV K mg W (.int i) (.int i) := .int i
variable {K : PySem.W.Frag} {mg : Str → Option Value}
theorem rs_intI {C : Int → Int → Prop} [∀ i j, Decidable (C i j)] {g : Int → Int → Int} : RS2 K mg (rI C fun i j => .int (g i j)) (int2 C fun i j => .int (g i j)) := fun W S H x y d e z S' Q s i j q k => by
  unfold int2 at q
  split at q
  · cases i; cases j
    split at q
    · rename_i hc; cases q; exact ⟨_, _, rfl, rfl, hc, k.here s (.int _)⟩
    · cases q
  · cases q
theorem rs_int0 {g : Int → Int → Int} : RS2 K mg (rI0 fun i j => .int (g i j)) (int2 (fun _ _ => True) fun i j => .int (g i j)) := fun W S H x y d e z S' Q s i j q k => by
  unfold int2 at q
  split at q
  · cases i; cases j
    rw [if_pos True.intro] at q
    cases q; exact ⟨_, _, rfl, rfl, k.here s (.int _)⟩
  · cases q
theorem rs_intB {g : Int → Int → Bool} : RS2 K mg (rI0 fun i j => .bl (g i j)) (int2 (fun _ _ => True) fun i j => .bl (g i j)) := fun W S H x y d e z S' Q s i j q k => by
  unfold int2 at q
  split at q
  · cases i; cases j
    rw [if_pos True.intro] at q
    cases q; exact ⟨_, _, rfl, rfl, k.here s (.bl _)⟩
  · cases q

/-! + -/
def addD : D → D → M D
  | .int i, .int j => ret (.int (i + j))
  | .str a, .str b => if a.length + b.length ≤ sizeLine then ret (.str (a ++ b)) else stuck
  | .tup a, .tup b => if a.length + b.length ≤ sizeLine then ret (.tup (a ++ b)) else stuck
  | .lst a, .lst b => if a.length + b.length ≤ sizeLine then ret (.lst (a ++ b)) else stuck
  | _, _ => stuck
def rAdd4 (K : PySem.W.Frag) : R2 := fun x y H Q => (rI0 fun i j => .int (i + j)) x y H Q ∨ (∃ i j, x = .str i ∧ y = .str j ∧ i.length + j.length ≤ sizeLine ∧ Q (.str (i ++ j)) H) ∨ xCat K x y H Q ∨ rCat x y H Q
theorem op_add4 : OpR X (binaryOp .Add) (rAdd4 X.K) := OpR.or op_add (OpR.or op_add_str (OpR.or ox_cat op_cat))
theorem rs_add : RS2 K mg (rAdd4 K) addD := fun W S H x y d e z S' Q s i j q k => by
  unfold addD at q
  split at q
  · cases i; cases j; cases q; exact .inl ⟨_, _, rfl, rfl, k.here s (.int _)⟩
  · cases i; cases j
    split at q
    · rename_i hc; cases q; exact .inr (.inl ⟨_, _, rfl, rfl, hc, k.here s (.str _)⟩)
    · cases q
  · cases i with
    | tup ha ia =>
      cases j with
      | tup hb ib =>
        split at q
        · rename_i hc
          cases q
          refine .inr (.inr (.inl ⟨_, _, _, _, rfl, rfl, TupX.up s ha, TupX.up s hb, by rw [ia.length, ib.length]; exact hc, fun h0 => ?_, fun _ h0 => ?_, fun _ _ => ?_⟩))
          · subst h0; cases ia; exact k.here s (.tup hb ib)
          · subst h0; cases ib; rw [List.append_nil] at k; exact k.here s (.tup ha ia)
          · exact k.tup s (ia.append ib)
        · cases q
  · cases i with
    | lst ha ia =>
      cases j with
      | lst hb ib =>
        split at q
        · rename_i hc
          cases q
          exact .inr (.inr (.inr ⟨_, _, _, _, rfl, rfl, s.zh _ _ ha, s.zh _ _ hb, by rw [ia.length, ib.length]; exact hc, fun p hp => k.lst s (ia.append ib) hp⟩))
        · cases q
  · cases q
theorem dn_add (ha : Dn X a ma) (hb : Dn X b mb) : Dn X (.BinOp a .Add b pos) (bin addD ma mb) := dn_op op_add4 rs_add ha hb
def subD : D → D → M D := int2 (fun _ _ => True) fun i j => .int (i - j)
theorem dn_sub (ha : Dn X a ma) (hb : Dn X b mb) : Dn X (.BinOp a .Sub b pos) (bin subD ma mb) := dn_op op_sub rs_int0 ha hb
instance (i j : Int) : Decidable (CMul i j) := by unfold CMul; infer_instance
instance (i j : Int) : Decidable (CMulW i j) := by unfold CMulW; infer_instance
instance (i j : Int) : Decidable (CDivW i j) := by unfold CDivW; infer_instance
instance (i j : Int) : Decidable (CPow i j) := by unfold CPow; infer_instance
instance (i j : Int) : Decidable (CDiv i j) := by unfold CDiv; infer_instance
/-- * : ints, a list a few times -/
def mulD : D → D → M D
  | .int i, .int j => if CMul i j ∨ CMulW i j then ret (.int (i * j)) else stuck
  | .lst a, .int k => if -(2 ^ 63) ≤ k ∧ k < 2 ^ 63 ∧ a.length * k.toNat ≤ sizeLine then ret (.lst (List.replicate k.toNat a).flatten) else stuck
  | .tup a, .int k => if a ≠ [] ∧ 2 ≤ k ∧ k ≤ 1000 ∧ a.length ≤ 1000 then ret (.tpl (List.replicate k.toNat a).flatten) else stuck
  | _, _ => stuck
def rMul3 (K : PySem.W.Frag) : R2 := fun x y H Q => rI CMul (fun i j => .int (i * j)) x y H Q ∨ rI CMulW (fun i j => .int (i * j)) x y H Q ∨ rRep x y H Q ∨ rRepT K x y H Q
theorem op_mul3 : OpR X (binaryOp .Mult) (rMul3 X.K) := OpR.or op_mul (OpR.or op_mulW (OpR.or op_rep op_repT))
theorem IsVs.rep {W : Wd} {vs : List V} {ds : List D} (i : IsVs K mg W vs ds) : ∀ n : Nat, IsVs K mg W (List.replicate n vs).flatten (List.replicate n ds).flatten
  | 0 => .nil
  | n + 1 => by rw [List.replicate_succ, List.replicate_succ, List.flatten_cons, List.flatten_cons]; exact i.append (i.rep n)
theorem IsVs.ne_nil {W : Wd} {vs : List V} {ds : List D} (i : IsVs K mg W vs ds) (h : ds ≠ []) : vs ≠ [] := by
  cases i with
  | nil => exact absurd rfl h
  | cons _ _ => exact List.cons_ne_nil _ _
theorem rs_mul : RS2 K mg (rMul3 K) mulD := fun W S H x y d e z S' Q s i j q k => by
  unfold mulD at q
  split at q
  · cases i; cases j
    split at q
    · rename_i hc
      cases q
      rcases hc with hc | hc
      · exact .inl ⟨_, _, rfl, rfl, hc, k.here s (.int _)⟩
      · exact .inr (.inl ⟨_, _, rfl, rfl, hc, k.here s (.int _)⟩)
    · cases q
  · cases i with
    | lst ha ia =>
      cases j
      split at q
      · rename_i hc
        cases q
        exact .inr (.inr (.inl ⟨_, _, _, rfl, rfl, s.zh _ _ ha, hc.1, hc.2.1, by rw [ia.length]; exact hc.2.2, fun p hp => k.lst s (ia.rep _) hp⟩))
      · cases q
  · cases i with
    | tup ha ia =>
      cases j
      split at q
      · rename_i hc
        cases q
        exact .inr (.inr (.inr ⟨_, _, _, rfl, rfl, TupX.up s ha, ia.ne_nil hc.1, hc.2.1, hc.2.2.1, by rw [ia.length]; exact hc.2.2.2, fun p hp => k.tpl s (ia.rep _) hp⟩))
      · cases q
  · cases q
theorem dn_mul (ha : Dn X a ma) (hb : Dn X b mb) : Dn X (.BinOp a .Mult b pos) (bin mulD ma mb) := dn_op op_mul3 rs_mul ha hb
def divD : D → D → M D := int2 CDivW fun i j => .int (i / j)
theorem dn_div (ha : Dn X a ma) (hb : Dn X b mb) : Dn X (.BinOp a .FloorDiv b pos) (bin divD ma mb) := dn_op op_fdivW rs_intI ha hb
def modD : D → D → M D := int2 (fun _ j => 0 < j) fun i j => .int (i % j)
theorem dn_mod (ha : Dn X a ma) (hb : Dn X b mb) : Dn X (.BinOp a .Mod b pos) (bin modD ma mb) := dn_op op_mod rs_intI ha hb
def powD : D → D → M D := int2 CPow fun i j => .int (i ^ j.toNat)
theorem dn_pow (ha : Dn X a ma) (hb : Dn X b mb) : Dn X (.BinOp a .Pow b pos) (bin powD ma mb) := dn_op op_pow rs_intI ha hb
/-! - -/
def negD : D → M D
  | .int i => ret (.int (-i))
  | _ => stuck
theorem dn_neg (ha : Dn X a ma) : Dn X (.UnaryOp .USub a pos) (fun env => bnd (ma env) negD) := ⟨PE.mono (pe_un un_neg ha.pe) fun σ H Q ⟨W, env, S, e, s, d, S', h, g⟩ => by
  obtain ⟨x, S1, h1, h⟩ := bnd_some h
  refine ⟨W, env, S, e, s, x, S1, h1, fun W1 v1 H1 le1 f1 s1 i1 => ?_⟩
  unfold negD at h
  split at h
  · cases i1; cases h; exact ⟨_, rfl, (g.step s le1 f1 s1).here s1 (.int _)⟩
  · cases h⟩

/-! order of ints -/
def ltD : D → D → M D := int2 (fun _ _ => True) fun i j => .bl (decide (i < j))
def leD : D → D → M D := int2 (fun _ _ => True) fun i j => .bl (decide (i ≤ j))
def gtD : D → D → M D := int2 (fun _ _ => True) fun i j => .bl (decide (j < i))
def geD : D → D → M D := int2 (fun _ _ => True) fun i j => .bl (decide (j ≤ i))

/-! data as such -/
mutual
def D.toPy : D → Option PyData
  | .non => some .none
  | .bl b => some (.bool b)
  | .int i => some (.int i)
  | .str s => some (.str s)
  | .tup ds => (D.toPys ds).map .tuple
  | .lst ds => (D.toPys ds).map .list
  | _ => none
def D.toPys : List D → Option (List PyData)
  | [] => some []
  | d :: ds => match d.toPy, D.toPys ds with
    | some p, some ps => some (p :: ps)
    | _, _ => none
end
mutual
theorem IsV.dp {W : Wd} {H : Hp} (zh : ∀ a o, W.Z a = some o → H a = some o) : ∀ {v : V} {d : D} {p : PyData}, IsV K mg W v d → d.toPy = some p → Dp K H v p
  | _, _, _, .non, e => by simp only [D.toPy, Option.some.injEq] at e; subst e; exact .non
  | _, _, _, .bl b, e => by simp only [D.toPy, Option.some.injEq] at e; subst e; exact .bl b
  | _, _, _, .int i, e => by simp only [D.toPy, Option.some.injEq] at e; subst e; exact .int i
  | _, _, _, .str i, e => by simp only [D.toPy, Option.some.injEq] at e; subst e; exact .str i
  | _, .tup ds, _, .tup a b, e => by
    simp only [D.toPy] at e
    cases q : D.toPys ds with
    | none => rw [q] at e; cases e
    | some ps => rw [q] at e; cases e; exact .tup (SqT.mono K zh a.t) (IsVs.dp zh b q)
  | _, .lst ds, _, .lst a b, e => by
    simp only [D.toPy] at e
    cases q : D.toPys ds with
    | none => rw [q] at e; cases e
    | some ps => rw [q] at e; cases e; exact .lst (SqL.of (zh _ _ a)) (IsVs.dp zh b q)
  | _, _, _, .scr a, e => by simp [D.toPy] at e
  | _, _, _, .dct a c b, e => by simp [D.toPy] at e
  | _, _, _, .obj a c f b, e => by simp [D.toPy] at e
  | _, _, _, .ref hl, e => by simp [D.toPy] at e
  | _, _, _, .fn _ _, e => by simp [D.toPy] at e
  | _, _, _, .tpl _ _, e => by simp [D.toPy] at e
theorem IsVs.dp {W : Wd} {H : Hp} (zh : ∀ a o, W.Z a = some o → H a = some o) : ∀ {vs : List V} {ds : List D} {ps : List PyData}, IsVs K mg W vs ds → D.toPys ds = some ps → DpAll K H vs ps
  | _, _, _, .nil, e => by simp only [D.toPys, Option.some.injEq] at e; subst e; exact .nil
  | _, d :: ds, _, .cons a b, e => by
    simp only [D.toPys] at e
    cases q : d.toPy with
    | none => rw [q] at e; cases e
    | some p =>
      cases q2 : D.toPys ds with
      | none => rw [q, q2] at e; cases e
      | some ps => rw [q, q2] at e; cases e; exact .cons (IsV.dp zh a q) (IsVs.dp zh b q2)
end
/-- == -/
def eqP (g : Bool → Bool) (d e : D) : M D := match d.toPy, e.toPy with
  | some p, some q => if SeqAt.shaped p = true ∧ SeqAt.shaped q = true then ret (.bl (g (PyData.eqv p q))) else stuck
  | _, _ => stuck
def eqD : D → D → M D := eqP id
def neD : D → D → M D := eqP not
theorem eqP_some {g : Bool → Bool} {d e z : D} {S S' : List O} (h : eqP g d e S = some (z, S')) : ∃ p q, d.toPy = some p ∧ e.toPy = some q ∧ SeqAt.shaped p = true ∧ SeqAt.shaped q = true ∧ z = .bl (g (PyData.eqv p q)) ∧ S' = S := by
  cases e1 : d.toPy with
  | none => simp [eqP, e1, stuck] at h
  | some p =>
    cases e2 : e.toPy with
    | none => simp [eqP, e1, e2, stuck] at h
    | some q =>
      simp only [eqP, e1, e2] at h
      split at h
      · rename_i hc; cases h; exact ⟨p, q, rfl, rfl, hc.1, hc.2, rfl, rfl⟩
      · cases h
theorem rs_eq : RS2 K mg (rEqD K) eqD := fun W S H x y d e z S' Q s i j q k => by
  obtain ⟨p, r, e1, e2, h1, h2, rfl, rfl⟩ := eqP_some q
  exact ⟨p, r, i.dp s.zh e1, j.dp s.zh e2, h1, h2, k.here s (.bl _)⟩
theorem rs_ne : RS2 K mg (rNeD K) neD := fun W S H x y d e z S' Q s i j q k => by
  obtain ⟨p, r, e1, e2, h1, h2, rfl, rfl⟩ := eqP_some q
  exact ⟨p, r, i.dp s.zh e1, j.dp s.zh e2, h1, h2, k.here s (.bl _)⟩

/-! in -/
def D.flat : D → Option V
  | .non => some .non
  | .bl b => some (.bl b)
  | .int i => some (.int i)
  | .str s => some (.str s)
  | _ => none
def D.flats : List D → Option (List V)
  | [] => some []
  | d :: ds => match d.flat, D.flats ds with
    | some v, some vs => some (v :: vs)
    | _, _ => none
theorem IsV.flat {W : Wd} {v w : V} {d : D} (i : IsV K mg W v d) (h : d.flat = some w) : v = w ∧ flatV w = true := by
  cases i <;> simp only [D.flat, Option.some.injEq, reduceCtorEq] at h <;> subst h <;> exact ⟨rfl, rfl⟩
theorem IsVs.flat {W : Wd} : ∀ {vs ws : List V} {ds : List D}, IsVs K mg W vs ds → D.flats ds = some ws → vs = ws ∧ ws.all flatV = true
  | _, _, _, .nil, h => by simp only [D.flats, Option.some.injEq] at h; subst h; exact ⟨rfl, rfl⟩
  | _, _, d :: ds, .cons a b, h => by
    simp only [D.flats] at h
    cases q : d.flat with
    | none => rw [q] at h; cases h
    | some w =>
      cases q2 : D.flats ds with
      | none => rw [q, q2] at h; cases h
      | some ws =>
        rw [q, q2] at h; cases h
        obtain ⟨e1, e2⟩ := a.flat q
        obtain ⟨e3, e4⟩ := IsVs.flat b q2
        exact ⟨by rw [e1, e3], by rw [List.all_cons, e2, e4]; rfl⟩
/-- the items of a list or a tuple -/
def D.items : D → Option (List D)
  | .lst ds => some ds
  | .tup ds => some ds
  | _ => none
theorem IsV.items {W : Wd} {S : List O} {H : Hp} {v : V} {d : D} {ds : List D} (s : StRel K mg W S H) (i : IsV K mg W v d) (h : d.items = some ds) : ∃ a vs, v = .ref a ∧ (SqL K H a vs ∨ SqT K H a vs) ∧ IsVs K mg W vs ds := by
  cases i <;> simp only [D.items, Option.some.injEq, reduceCtorEq] at h
  · subst h; rename_i a b; exact ⟨_, _, rfl, .inr (TupX.up s a), b⟩
  · subst h; rename_i a b; exact ⟨_, _, rfl, .inl (SqL.of (s.zh _ _ a)), b⟩
def inQ (g : Bool → Bool) (x y : D) : M D := match x.toPy, y with
    | some p, .lst ds => match D.toPys ds with
      | some ps => if SeqAt.shaped p = true ∧ SeqAt.shaped (.list ps) = true then ret (.bl (g (ps.any fun z => PyData.eqv z p))) else stuck
      | none => stuck
    | _, _ => stuck
def inP (g : Bool → Bool) (x y : D) : M D := match x.flat, (y.items).bind D.flats with
  | some v, some vs => ret (.bl (g (inV v vs)))
  | _, _ => inQ g x y
def inD : D → D → M D := inP id
def notInD : D → D → M D := inP not
def rInAll (K : PySem.W.Frag) (neg : Bool) (r : R2) : R2 := fun x y H Q => rIn K neg x y H Q ∨ r x y H Q
theorem inP_deep {g : Bool → Bool} {x y z : D} {S S' : List O} (h : inQ g x y S = some (z, S')) :
    ∃ p ds ps, x.toPy = some p ∧ y = .lst ds ∧ D.toPys ds = some ps ∧ SeqAt.shaped p = true ∧ SeqAt.shaped (.list ps) = true ∧ z = .bl (g (ps.any fun z => PyData.eqv z p)) ∧ S' = S := by
  cases e1 : x.toPy with
  | none => simp [inQ, e1, stuck] at h
  | some p =>
    cases y with
    | lst ds =>
      cases e2 : D.toPys ds with
      | none => simp [inQ, e1, e2, stuck] at h
      | some ps =>
        simp only [inQ, e1, e2] at h
        split at h
        · rename_i hc; cases h; exact ⟨p, ds, ps, rfl, rfl, e2, hc.1, hc.2, rfl, rfl⟩
        · cases h
    | _ => simp [inQ, e1, stuck] at h
theorem inP_some {g : Bool → Bool} {x y z : D} {S S' : List O} (h : inP g x y S = some (z, S')) :
    (∃ v ds vs, x.flat = some v ∧ y.items = some ds ∧ D.flats ds = some vs ∧ z = .bl (g (inV v vs)) ∧ S' = S) ∨
    (∃ p ds ps, x.toPy = some p ∧ y = .lst ds ∧ D.toPys ds = some ps ∧ SeqAt.shaped p = true ∧ SeqAt.shaped (.list ps) = true ∧ z = .bl (g (ps.any fun z => PyData.eqv z p)) ∧ S' = S) := by
  cases e1 : x.flat with
  | some v =>
    cases e2 : (y.items).bind D.flats with
    | some vs =>
      simp only [inP, e1, e2, ret, Option.some.injEq, Prod.mk.injEq] at h
      obtain ⟨rfl, rfl⟩ := h
      cases q : y.items with
      | none => rw [q] at e2; cases e2
      | some ds => rw [q] at e2; exact .inl ⟨v, ds, vs, rfl, rfl, e2, rfl, rfl⟩
    | none => simp only [inP, e1, e2] at h; exact .inr (inP_deep h)
  | none => simp only [inP, e1] at h; exact .inr (inP_deep h)
theorem rs_in : RS2 K mg (rInAll K false (rInD K)) inD := fun W S H x y d e z S' Q s i j q k => by
  rcases inP_some q with ⟨v, ds, vs, h1, h2, h3, rfl, rfl⟩ | ⟨p, ds, ps, h1, rfl, h3, h4, h5, rfl, rfl⟩
  · obtain ⟨a, ws, rfl, hs, hi⟩ := j.items s h2
    obtain ⟨rfl, e1⟩ := i.flat h1
    obtain ⟨rfl, e2⟩ := hi.flat h3
    exact .inl ⟨_, _, rfl, hs, e1, e2, k.here s (.bl _)⟩
  · exact .inr ⟨p, ps, i.dp s.zh h1, j.dp s.zh (by simp only [D.toPy, h3]; rfl), h4, h5, k.here s (.bl _)⟩
theorem rs_notIn : RS2 K mg (rInAll K true (rNotInD K)) notInD := fun W S H x y d e z S' Q s i j q k => by
  rcases inP_some q with ⟨v, ds, vs, h1, h2, h3, rfl, rfl⟩ | ⟨p, ds, ps, h1, rfl, h3, h4, h5, rfl, rfl⟩
  · obtain ⟨a, ws, rfl, hs, hi⟩ := j.items s h2
    obtain ⟨rfl, e1⟩ := i.flat h1
    obtain ⟨rfl, e2⟩ := hi.flat h3
    exact .inl ⟨_, _, rfl, hs, e1, e2, k.here s (.bl _)⟩
  · exact .inr ⟨p, ps, i.dp s.zh h1, j.dp s.zh (by simp only [D.toPy, h3]; rfl), h4, h5, k.here s (.bl _)⟩
/-! is None -/
def isND (d e : D) : M D := match e with
  | .non => ret (.bl (match d with | .non => true | _ => false))
  | _ => stuck
def notND (d e : D) : M D := match e with
  | .non => ret (.bl (match d with | .non => false | _ => true))
  | _ => stuck
theorem rs_isN : RS2 K mg (fun x y H Q => y = .non ∧ Q (.bl (decide (x = .non))) H) isND := fun W S H x y d e z S' Q s i j q k => by
  cases e <;> try (cases q)
  cases j
  refine ⟨rfl, ?_⟩
  cases i <;> first | exact k.here s (.bl _) | (rw [decide_eq_false (by intro h; cases h)]; exact k.here s (.bl _))
theorem rs_notN : RS2 K mg (fun x y H Q => y = .non ∧ Q (.bl (!decide (x = .non))) H) notND := fun W S H x y d e z S' Q s i j q k => by
  cases e <;> try (cases q)
  cases j
  refine ⟨rfl, ?_⟩
  cases i <;> first | exact k.here s (.bl _) | (rw [decide_eq_false (by intro h; cases h)]; exact k.here s (.bl _))
end
end Pm

set_option Elab.async false
set_option linter.all false
set_option maxRecDepth 100000
set_option maxHeartbeats 600000
/-! Pm3: arguments, calls, tests, displays, attributes, subscripts. -/
namespace Pm
open PySem PySem.Spec PyProof.Rows L2

/-! ### arguments -/
def GoA (K : PySem.W.Frag) (mg : Str → Option Value) (W : Wd) (H : Hp) (S' : List O) (ds : List D) (Q : List V → Hp → Prop) : Prop :=
  ∀ W' vs H', W.le W' → Frame W W' H H' → StRel K mg W' S' H' → IsVs K mg W' vs ds → Q vs H'
def tA (K : PySem.W.Frag) (mg : Str → Option Value) (m : Env → M (List D)) : TA := fun σ H Q =>
  ∃ (W : Wd) (env : Env) (S : List O), ERel K mg W env σ ∧ StRel K mg W S H ∧ ∃ ds S', m env S = some (ds, S') ∧ GoA K mg W H S' ds Q
structure DnA (X : Cx) (es : List Expr) (m : Env → M (List D)) : Prop where
  pa : PA X es (tA X.K X.mg m)
theorem PA.mono {X : Cx} {e : List Expr} {t t' : TA} (h : PA X e t) (k : ∀ σ H Q, t' σ H Q → t σ H Q) : PA X e t' := ⟨fun pos pins s σ H Q I q => h.run pos pins s σ H Q I (k σ H Q q)⟩
def consA (me : Env → M D) (m : Env → M (List D)) : Env → M (List D) := fun env => bnd (me env) fun x => bnd (m env) fun xs => ret (x :: xs)
section
variable {X : Cx} {e : Expr} {es : List Expr} {me : Env → M D} {m : Env → M (List D)} {pos p : Pos}
theorem da_nil : DnA X [] (fun _ => ret []) := ⟨PA.mono pa_nil fun σ H Q ⟨W, env, S, e, s, d, S', h, g⟩ => by
  cases h; exact g W [] H (.refl _) (.refl _ _) s .nil⟩
theorem da_cons (h1 : Dn X e me) (h2 : DnA X es m) (hs : starEach (e :: es) X.env = (false, eval e X.env) :: starEach es X.env := by rfl) : DnA X (e :: es) (consA me m) :=
  ⟨PA.mono (pa_cons h1.pe h2.pa hs) fun σ H Q ⟨W, env, S, e, s, d, S', h, g⟩ => by
    obtain ⟨x, S1, h1, h⟩ := bnd_some h
    obtain ⟨xs, S2, h2, h⟩ := bnd_some h
    cases h
    refine ⟨W, env, S, e, s, x, S1, h1, fun W1 v1 H1 le1 f1 s1 i1 => ?_⟩
    refine ⟨W1, env, S1, e.mono le1, s1, xs, _, h2, fun W2 v2 H2 le2 f2 s2 i2 => ?_⟩
    exact g W2 _ H2 (le1.trans le2) (f1.trans s s1 le1 f2 le2) s2 (.cons (i1.mono le2) i2)⟩

/-! ### displays -/
theorem dn_tup {x1} (h : DnA X es m) : Dn X (.Tuple es x1 pos) (fun env => bnd (m env) fun ds => if ds.length ≤ sizeLine then ret (.tup ds) else stuck) :=
  ⟨PE.mono (xe_tup h.pa) fun σ H Q ⟨W, env, S, e, s, d, S', h, g⟩ => by
    obtain ⟨ds, S1, h1, h⟩ := bnd_some h
    split at h
    · rename_i hc
      cases h
      refine ⟨W, env, S, e, s, ds, S', h1, fun W1 v1 H1 le1 f1 s1 i1 => ⟨by rw [i1.length]; exact hc, (g.step s le1 f1 s1).tup s1 i1⟩⟩
    · cases h⟩

/-! ### fresh lists -/
/-- a list that nothing else knows -/
def GoL (K : PySem.W.Frag) (mg : Str → Option Value) (W : Wd) (H : Hp) (S' : List O) (ds : List D) (Q : VK) : Prop :=
  ∀ W' p vs H', W.le W' → Frame W W' H H' → StRel K mg W' S' H' → H' p = some (.lst vs) → IsVs K mg W' vs ds → W'.Z p = none → (∀ l, l < W'.n → W'.r l ≠ p) → H p = none → Q (.ref p) H'
def tL (K : PySem.W.Frag) (mg : Str → Option Value) (m : Env → M (List D)) : TE := fun σ H Q =>
  ∃ (W : Wd) (env : Env) (S : List O), ERel K mg W env σ ∧ StRel K mg W S H ∧ ∃ ds S', m env S = some (ds, S') ∧ GoL K mg W H S' ds Q
structure DnL (X : Cx) (e : Expr) (m : Env → M (List D)) : Prop where
  pe : PE X e (tL X.K X.mg m)
/-- frozen -/
theorem StRel.freeze {K : PySem.W.Frag} {mg : Str → Option Value} {W : Wd} {S : List O} {H : Hp} {p : Addr} {o : HO} (s : StRel K mg W S H) (hp : H p = some o) (hz : W.Z p = none) (hr : ∀ l, l < W.n → W.r l ≠ p) :
    W.le (W.add p o) ∧ StRel K mg (W.add p o) S H := by
  have le : W.le (W.add p o) := ⟨fun a u e => by
    show upd W.Z p o a = some u
    rw [upd_ne (fun z => by rw [z, hz] at e; cases e)]; exact e, Nat.le_refl _, fun _ _ => rfl⟩
  refine ⟨le, s.len, fun a u e => ?_, fun l hl => ?_, s.inj, fun l u e => ?_⟩
  · have e : upd W.Z p o a = some u := e
    by_cases ha : a = p
    · rw [ha, upd_same] at e; rw [ha, hp]; exact e
    · rw [upd_ne ha] at e; exact s.zh _ _ e
  · show upd W.Z p o (W.r l) = none
    rw [upd_ne (hr l hl)]; exact s.zr l hl
  · exact (s.ob l u e).mono le rfl
theorem DnL.dn (h : DnL X e m) : Dn X e (fun env => bnd (m env) fun ds => ret (.lst ds)) := ⟨PE.mono h.pe fun σ H Q ⟨W, env, S, e, s, d, S', h, g⟩ => by
  obtain ⟨ds, S1, h1, h⟩ := bnd_some h
  cases h
  refine ⟨W, env, S, e, s, ds, S', h1, fun W1 p vs H1 le1 f1 s1 hp i1 hz hr hn => ?_⟩
  obtain ⟨le2, s2⟩ := s1.freeze hp hz hr
  refine g _ _ _ (le1.trans le2) ⟨f1.kp, f1.fr, fun a o e => ?_⟩ s2 (.lst (by show upd _ _ _ _ = _; exact upd_same) (i1.mono le2))
  by_cases ha : a = p
  · rw [ha]; exact .inr hn
  · have e : upd W1.Z p (.lst vs) a = some o := e
    rw [upd_ne ha] at e
    exact f1.fz a o e⟩
theorem dl_lst (h : DnA X es m) : DnL X (.List es pos) (fun env => bnd (m env) fun ds => if ds.length ≤ sizeLine then ret ds else stuck) :=
  ⟨PE.mono (pe_lst h.pa) fun σ H Q ⟨W, env, S, e, s, d, S', h, g⟩ => by
    obtain ⟨ds, S1, h1, h⟩ := bnd_some h
    split at h
    · rename_i hc
      cases h
      refine ⟨W, env, S, e, s, _, S', h1, fun W1 v1 H1 le1 f1 s1 i1 => ⟨by rw [i1.length]; exact hc, fun p hp => ?_⟩⟩
      have le2 := Wd.le.refl W1
      refine g W1 p v1 (upd H1 p (.lst v1)) le1 ⟨fun a o e hr => ?_, f1.fr, f1.fz⟩ ⟨s1.len, fun a o e => ?_, s1.zr, s1.inj, fun l o e => ?_⟩ upd_same i1 ?_ (fun l hl => s1.ne hp hl) (f1.tr le1 s1 hp)
      · have h2 := f1.kp a o e hr
        rw [upd_ne (ne_of_none h2 hp)]; exact h2
      · have h2 := s1.zh a o e
        rw [upd_ne (ne_of_none h2 hp)]; exact h2
      · have hl : l < W1.n := by rw [s1.len]; exact (List.getElem?_eq_some_iff.mp e).1
        exact (s1.ob l o e).mono le2 (by rw [upd_ne (s1.ne hp hl)])
      · cases q : W1.Z p with
        | none => rfl
        | some u => rw [s1.zh _ _ q] at hp; cases hp
    · cases h⟩

/-! ### calls of built-ins by values -/
def RSn (K : PySem.W.Frag) (mg : Str → Option Value) (r : List V → Hp → VK → Prop) (f : List D → M D) : Prop :=
  ∀ (W : Wd) (S : List O) (H : Hp) (vs : List V) (ds : List D) (z : D) (S' : List O) (Q : VK), StRel K mg W S H → IsVs K mg W vs ds → f ds S = some (z, S') → Go K mg W H S' z Q → r vs H Q
def appA (f : List D → M D) (m : Env → M (List D)) : Env → M D := fun env => bnd (m env) f
theorem runA {r : List V → Hp → VK → Prop} {f : List D → M D} {σ : L2.St} {H : Hp} {Q : VK} (hs : RSn X.K X.mg r f) (h : tE X.K X.mg (appA f m) σ H Q) : tCB r (tA X.K X.mg m) σ H Q := by
  obtain ⟨W, env, S, e, s, d, S', h, g⟩ := h
  obtain ⟨ds, S1, h1, h⟩ := bnd_some h
  refine ⟨W, env, S, e, s, ds, S1, h1, fun W1 v1 H1 le1 f1 s1 i1 => ?_⟩
  exact hs W1 S1 H1 v1 ds d S' Q s1 i1 h (g.step s le1 f1 s1)
variable {x : Str} {id T : String} {r r' : List V → Hp → VK → Prop} {f g : List D → M D}
theorem dn_callB (hc : CallR X (.builtin id) r) (hs : RSn X.K X.mg r f) (hg : Gl X x) (hm : X.mg x = none) (hv : bootBuiltins x = some (.builtin id)) (ha : DnA X (e :: es) m) (hn : x ≠ "__name__" := by decide) (hdb : (x == ("__debug__" : Str)) = false := by decide)
    (he : starEach (e :: es) X.env = (false, eval e X.env) :: starEach es X.env := by rfl) (hpl : (backTo pos (starEach es X.env)).any (·.1) = false := by rfl) : Dn X (.Call (.Name x p) (e :: es) [] pos) (appA f m) :=
  ⟨PE.mono (pe_callB hc hg hm hv ha.pa hn hdb he hpl) fun _ _ _ h => runA hs h⟩
theorem dn_callTy (hc : CallR X (.type T) r) (hs : RSn X.K X.mg r f) (hg : Gl X x) (hm : X.mg x = none) (hv : bootBuiltins x = some (.type T)) (ha : DnA X (e :: es) m) (hn : x ≠ "__name__" := by decide) (hdb : (x == ("__debug__" : Str)) = false := by decide)
    (he : starEach (e :: es) X.env = (false, eval e X.env) :: starEach es X.env := by rfl) (hpl : (backTo pos (starEach es X.env)).any (·.1) = false := by rfl) : Dn X (.Call (.Name x p) (e :: es) [] pos) (appA f m) :=
  ⟨PE.mono (pe_callTy hc hg hm hv ha.pa hn hdb he hpl) fun _ _ _ h => runA hs h⟩
theorem dn_callF (hc : CallR X (.builtin id) r) (hs : RSn X.K X.mg r f) (hg : Gl X x) (hm : X.mg x = some (.builtin id)) (ha : DnA X (e :: es) m) (hdb : (x == ("__debug__" : Str)) = false := by decide)
    (he : starEach (e :: es) X.env = (false, eval e X.env) :: starEach es X.env := by rfl) (hpl : (backTo pos (starEach es X.env)).any (·.1) = false := by rfl) : Dn X (.Call (.Name x p) (e :: es) [] pos) (appA f m) :=
  ⟨PE.mono (pe_callBfun hc hg hm ha.pa hdb he hpl) fun _ _ _ h => runA hs h⟩
theorem CallR.or {u : Value} (h : CallR X u r) (h' : CallR X u r') : CallR X u (fun vs H Q => r vs H Q ∨ r' vs H Q) := by
  intro pins s σ H vs us Q I rv q
  rcases q with q | q
  · exact h pins s σ H vs us Q I rv q
  · exact h' pins s σ H vs us Q I rv q
theorem RSn.or {K : PySem.W.Frag} {mg : Str → Option Value} (h : RSn K mg r f) (h' : RSn K mg r' g) : RSn K mg (fun vs H Q => r vs H Q ∨ r' vs H Q) (fun ds S => (f ds S).or (g ds S)) := fun W S H vs ds z S' Q s i q k => by
  have q : (f ds S).or (g ds S) = some (z, S') := q
  cases c : f ds S with
  | some w => rw [c] at q; exact .inl (h W S H vs ds z S' Q s i (c.trans q) k)
  | none => rw [c] at q; exact .inr (h' W S H vs ds z S' Q s i q k)
end
section
variable {K : PySem.W.Frag} {mg : Str → Option Value}
/-! the built-ins -/
def absD : List D → M D
  | [.int i] => ret (.int (if i < 0 then -i else i))
  | _ => stuck
theorem rs_abs : RSn K mg (fun xs H Q => ∃ i, xs = [.int i] ∧ Q (.int (if i < 0 then -i else i)) H) absD := fun W S H vs ds z S' Q s i q k => by
  unfold absD at q
  split at q
  · cases i with
    | cons i1 i2 => cases i1; cases i2; cases q; exact ⟨_, rfl, k.here s (.int _)⟩
  · cases q
def max2D : List D → M D
  | [.int i, .int j] => ret (.int (if j > i then j else i))
  | _ => stuck
theorem rs_max2 : RSn K mg (fun xs H Q => ∃ i j, xs = [.int i, .int j] ∧ Q (.int (if j > i then j else i)) H) max2D := fun W S H vs ds z S' Q s i q k => by
  unfold max2D at q
  split at q
  · cases i with
    | cons i1 i2 => cases i2 with
      | cons i2 i3 => cases i1; cases i2; cases i3; cases q; exact ⟨_, _, rfl, k.here s (.int _)⟩
  · cases q
def min2D : List D → M D
  | [.int i, .int j] => ret (.int (if j < i then j else i))
  | _ => stuck
theorem rs_min2 : RSn K mg (fun xs H Q => ∃ i j, xs = [.int i, .int j] ∧ Q (.int (if j < i then j else i)) H) min2D := fun W S H vs ds z S' Q s i q k => by
  unfold min2D at q
  split at q
  · cases i with
    | cons i1 i2 => cases i2 with
      | cons i2 i3 => cases i1; cases i2; cases i3; cases q; exact ⟨_, _, rfl, k.here s (.int _)⟩
  · cases q
def gcdD : List D → M D
  | [.int i, .int j] => ret (.int ((Nat.gcd i.natAbs j.natAbs : Nat) : Int))
  | _ => stuck
theorem rs_gcd : RSn K mg rGcd gcdD := fun W S H vs ds z S' Q s i q k => by
  unfold gcdD at q
  split at q
  · cases i with
    | cons i1 i2 => cases i2 with
      | cons i2 i3 => cases i1; cases i2; cases i3; cases q; exact ⟨_, _, rfl, k.here s (.int _)⟩
  · cases q
def divmodD : List D → M D
  | [.int i, .int j] => if CDiv i j then ret (.tpl [.int (i / j), .int (i % j)]) else stuck
  | _ => stuck
theorem rs_divmod : RSn K mg (fun xs H Q => ∃ i j, xs = [.int i, .int j] ∧ CDiv i j ∧ ∀ p, H p = none → Q (.ref p) (upd H p (.tup [.int (i / j), .int (i % j)]))) divmodD := fun W S H vs ds z S' Q s i q k => by
  unfold divmodD at q
  split at q
  · split at q
    · rename_i hc
      cases i with
      | cons i1 i2 => cases i2 with
        | cons i2 i3 => cases i1; cases i2; cases i3; cases q; exact ⟨_, _, rfl, hc, fun p hp => k.tpl s (.cons (.int _) (.cons (.int _) .nil)) hp⟩
    · cases q
  · cases q
def intD : List D → M D
  | [.int i] => ret (.int i)
  | [.bl b] => ret (.int (if b then 1 else 0))
  | _ => stuck
theorem rs_int : RSn K mg (fun xs H Q => (∃ i, xs = [.int i] ∧ Q (.int i) H) ∨ ∃ k, xs = [.bl k] ∧ Q (.int (if k then 1 else 0)) H) intD := fun W S H vs ds z S' Q s i q k => by
  unfold intD at q
  split at q
  · cases i with
    | cons i1 i2 => cases i1; cases i2; cases q; exact .inl ⟨_, rfl, k.here s (.int _)⟩
  · cases i with
    | cons i1 i2 => cases i1; cases i2; cases q; exact .inr ⟨_, rfl, k.here s (.int _)⟩
  · cases q
/-- len -/
def lenD : List D → M D
  | [.lst ds] => ret (.int ds.length)
  | [.tup ds] => ret (.int ds.length)
  | [.scr ns] => ret (.int ns.length)
  | [.str z] => if z.length ≤ sizeLine then ret (.int z.length) else stuck
  | _ => stuck
def rLenA (K : PySem.W.Frag) : List V → Hp → VK → Prop := fun vs H Q => (∃ p ys, vs = [.ref p] ∧ (SqL K H p ys ∨ SqT K H p ys) ∧ Q (.int ys.length) H) ∨ ∃ z, vs = [.str z] ∧ z.length ≤ sizeLine ∧ Q (.int z.length) H
theorem rs_len : RSn K mg (rLenA K) lenD := fun W S H vs ds z S' Q s i q k => by
  unfold lenD at q
  split at q
  · cases i with
    | cons i1 i2 => cases i2; cases q; cases i1 with
      | lst ha ia => exact .inl ⟨_, _, rfl, .inl (SqL.of (s.zh _ _ ha)), by rw [ia.length]; exact k.here s (.int _)⟩
  · cases i with
    | cons i1 i2 => cases i2; cases q; cases i1 with
      | tup ha ia => exact .inl ⟨_, _, rfl, .inr (TupX.up s ha), by rw [ia.length]; exact k.here s (.int _)⟩
  · cases i with
    | cons i1 i2 => cases i2; cases q; cases i1 with
      | scr ha => exact .inl ⟨_, _, rfl, .inl (ha.mono fun _ => s.zh _ _).l, by rw [List.length_map]; exact k.here s (.int _)⟩
  · split at q
    · rename_i hc
      cases i with
      | cons i1 i2 => cases i2; cases q; cases i1; exact .inr ⟨_, rfl, hc, k.here s (.int _)⟩
    · cases q
  · cases q
theorem call_lenA {X : Cx} : CallR X (.builtin "len") (rLenA X.K) := CallR.or call_len_seq call_len_str
/-- tuple(list), tuple(tuple) -/
def tupleD : List D → M D
  | [.lst ds] => ret (.tup ds)
  | [.tup ds] => ret (.tup ds)
  | _ => stuck
theorem rs_tuple : RSn K mg (fun xs H Q => ∃ p ys, xs = [.ref p] ∧ ((SqL K H p ys ∧ NewT H Q ys) ∨ (SqT K H p ys ∧ Q (.ref p) H))) tupleD := fun W S H vs ds z S' Q s i q k => by
  unfold tupleD at q
  split at q
  · cases i with
    | cons i1 i2 => cases i2; cases q; cases i1 with
      | lst ha ia => exact ⟨_, _, rfl, .inl ⟨SqL.of (s.zh _ _ ha), k.tup s ia⟩⟩
  · cases i with
    | cons i1 i2 => cases i2; cases q; cases i1 with
      | tup ha ia => exact ⟨_, _, rfl, .inr ⟨TupX.up s ha, k.here s (.tup ha ia)⟩⟩
  · cases q
/-- list(list), list(tuple) -/
def listD : List D → M D
  | [.lst ds] => ret (.lst ds)
  | [.tup ds] => ret (.lst ds)
  | [.scr ns] => ret (.lst (ns.map .int))
  | _ => stuck
theorem rs_list : RSn K mg (fun xs H Q => ∃ p ys, xs = [.ref p] ∧ (SqL K H p ys ∨ SqT K H p ys) ∧ ∀ l, H l = none → Q (.ref l) (upd H l (.lst ys))) listD := fun W S H vs ds z S' Q s i q k => by
  unfold listD at q
  split at q
  · cases i with
    | cons i1 i2 => cases i2; cases q; cases i1 with
      | lst ha ia => exact ⟨_, _, rfl, .inl (SqL.of (s.zh _ _ ha)), fun p hp => k.lst s ia hp⟩
  · cases i with
    | cons i1 i2 => cases i2; cases q; cases i1 with
      | tup ha ia => exact ⟨_, _, rfl, .inr (TupX.up s ha), fun p hp => k.lst s ia hp⟩
  · cases i with
    | cons i1 i2 => cases i2; cases q; cases i1 with
      | scr ha => exact ⟨_, _, rfl, .inl (ha.mono fun _ => s.zh _ _).l, fun p hp => k.lst s (IsVs.of_ints _) hp⟩
  · cases q
/-! items that are ints, truths -/
def D.ints : List D → Option (List Int)
  | [] => some []
  | .int i :: r => (D.ints r).map (i :: ·)
  | _ => none
def D.bls : List D → Option (List Bool)
  | [] => some []
  | .bl i :: r => (D.bls r).map (i :: ·)
  | _ => none
theorem D.ints_eq : ∀ {ds : List D} {ns : List Int}, D.ints ds = some ns → ds = ns.map D.int
  | [], _, h => by simp only [D.ints, Option.some.injEq] at h; subst h; rfl
  | d :: r, ns, h => by
    cases d <;> simp only [D.ints, reduceCtorEq] at h
    cases q : D.ints r with
    | none => rw [q] at h; cases h
    | some ms => rw [q] at h; cases h; rw [D.ints_eq q]; rfl
theorem D.bls_eq : ∀ {ds : List D} {ns : List Bool}, D.bls ds = some ns → ds = ns.map D.bl
  | [], _, h => by simp only [D.bls, Option.some.injEq] at h; subst h; rfl
  | d :: r, ns, h => by
    cases d <;> simp only [D.bls, reduceCtorEq] at h
    cases q : D.bls r with
    | none => rw [q] at h; cases h
    | some ms => rw [q] at h; cases h; rw [D.bls_eq q]; rfl
@[simp] theorem D.ints_map (ns : List Int) : D.ints (ns.map D.int) = some ns := by
  induction ns with
  | nil => rfl
  | cons n r ih => simp [D.ints, ih]
@[simp] theorem D.bls_map (ns : List Bool) : D.bls (ns.map D.bl) = some ns := by
  induction ns with
  | nil => rfl
  | cons n r ih => simp [D.bls, ih]
/-- a list's ints, truths -/
def listInts (d : D) : Option (List Int) := match d with
  | .lst ds => D.ints ds
  | .scr ns => some ns
  | _ => none
theorem IsV.listInts {W : Wd} {S : List O} {H : Hp} {v : V} {d : D} {ns : List Int} (s : StRel K mg W S H) (i : IsV K mg W v d) (h : Pm.listInts d = some ns) : ∃ a, v = .ref a ∧ SqL K H a (ns.map V.int) := by
  cases i <;> simp only [Pm.listInts, reduceCtorEq] at h
  · rename_i ha ia
    rw [D.ints_eq h] at ia
    rw [ia.ints] at ha
    exact ⟨_, rfl, SqL.of (s.zh _ _ ha)⟩
  · cases h
    rename_i ha
    exact ⟨_, rfl, (ha.mono fun _ => s.zh _ _).l⟩
def sumD : List D → M D
  | [d] => match listInts d with
    | some ns => ret (.int ns.sum)
    | none => stuck
  | _ => stuck
theorem rs_sum : RSn K mg (rSum K) sumD := fun W S H vs ds z S' Q s i q k => by
  match ds, q with
  | [d], q =>
    cases c : listInts d with
    | none => simp [sumD, c, stuck] at q
    | some ns =>
      simp only [sumD, c, ret, Option.some.injEq, Prod.mk.injEq] at q
      obtain ⟨rfl, rfl⟩ := q
      cases i with
      | cons i1 i2 =>
        cases i2
        obtain ⟨a, rfl, ha⟩ := i1.listInts s c
        exact ⟨_, _, rfl, ha, k.here s (.int _)⟩
/-- sorted of ints -/
def sortI (ns : List Int) : List Int := ns.mergeSort (fun a b => decide (a ≤ b))
theorem sortI_eq {ns ms : List Int} (h1 : ms.Perm ns) (h2 : ms.Pairwise (· ≤ ·)) : ms = sortI ns := by
  refine List.Perm.eq_of_pairwise (le := (· ≤ ·)) (fun a b _ _ x y => Int.le_antisymm x y) h2 ?_ (h1.trans (List.mergeSort_perm ns _).symm)
  have h := List.pairwise_mergeSort (le := fun a b : Int => decide (a ≤ b)) (fun a b c x y => by simp only [decide_eq_true_eq] at *; omega) (fun a b => by simp only [Bool.or_eq_true, decide_eq_true_eq]; omega) ns
  exact h.imp fun h => by simpa using h
def sortedD : List D → M D
  | [d] => match listInts d with
    | some ns => ret (.lst ((sortI ns).map .int))
    | none => stuck
  | _ => stuck
theorem rs_sorted : RSn K mg (rSortedI K) sortedD := fun W S H vs ds z S' Q s i q k => by
  match ds, q with
  | [d], q =>
    cases c : listInts d with
    | none => simp [sortedD, c, stuck] at q
    | some ns =>
      simp only [sortedD, c, ret, Option.some.injEq, Prod.mk.injEq] at q
      obtain ⟨rfl, rfl⟩ := q
      cases i with
      | cons i1 i2 =>
        cases i2
        obtain ⟨a, rfl, ha⟩ := i1.listInts s c
        refine ⟨_, _, rfl, ha, fun ms p h1 h2 hp => ?_⟩
        rw [sortI_eq h1 h2]
        exact k.lst s (IsVs.of_ints _) hp
def allD : List D → M D
  | [.lst ds] => match D.bls ds with
    | some bs => ret (.bl (bs.all id))
    | none => stuck
  | _ => stuck
def anyD : List D → M D
  | [.lst ds] => match D.bls ds with
    | some bs => ret (.bl (bs.any id))
    | none => stuck
  | _ => stuck
theorem lst_bls {W : Wd} {S : List O} {H : Hp} {v : V} {es : List D} {bs : List Bool} (s : StRel K mg W S H) (i : IsV K mg W v (.lst es)) (h : D.bls es = some bs) : ∃ a, v = .ref a ∧ SqL K H a (bs.map V.bl) := by
  cases i with
  | lst ha ia =>
    rw [D.bls_eq h] at ia
    rw [ia.bls] at ha
    exact ⟨_, rfl, SqL.of (s.zh _ _ ha)⟩
theorem rs_all : RSn K mg (rAll K) allD := fun W S H vs ds z S' Q s i q k => by
  unfold allD at q
  split at q
  · rename_i es
    cases c : D.bls es with
    | none => simp [c, stuck] at q
    | some bs =>
      simp only [c, ret, Option.some.injEq, Prod.mk.injEq] at q
      obtain ⟨rfl, rfl⟩ := q
      cases i with
      | cons i1 i2 =>
        cases i2
        obtain ⟨a, rfl, ha⟩ := lst_bls s i1 c
        exact ⟨_, _, rfl, ha, k.here s (.bl _)⟩
  · cases q
theorem rs_any : RSn K mg (rAny K) anyD := fun W S H vs ds z S' Q s i q k => by
  unfold anyD at q
  split at q
  · rename_i es
    cases c : D.bls es with
    | none => simp [c, stuck] at q
    | some bs =>
      simp only [c, ret, Option.some.injEq, Prod.mk.injEq] at q
      obtain ⟨rfl, rfl⟩ := q
      cases i with
      | cons i1 i2 =>
        cases i2
        obtain ⟨a, rfl, ha⟩ := lst_bls s i1 c
        exact ⟨_, _, rfl, ha, k.here s (.bl _)⟩
  · cases q
end
end Pm

set_option Elab.async false
set_option linter.all false
set_option maxRecDepth 100000
set_option maxHeartbeats 600000
/-! Pm4: tests, chains, attributes, subscripts, calls of own defs, new instances, comprehensions. -/
namespace Pm
open PySem PySem.Spec PyProof.Rows L2

/-! ### tests -/
def GoT (K : PySem.W.Frag) (mg : Str → Option Value) (W : Wd) (H : Hp) (S' : List O) (b : Bool) (Q : Bool → Hp → Prop) : Prop :=
  ∀ W' H', W.le W' → Frame W W' H H' → StRel K mg W' S' H' → Q b H'
def tT (K : PySem.W.Frag) (mg : Str → Option Value) (m : Env → M Bool) : TT := fun σ H Q =>
  ∃ (W : Wd) (env : Env) (S : List O), ERel K mg W env σ ∧ StRel K mg W S H ∧ ∃ b S', m env S = some (b, S') ∧ GoT K mg W H S' b Q
structure DnT (X : Cx) (e : Expr) (m : Env → M Bool) : Prop where
  pt : PT X e (tT X.K X.mg m)
structure DnW (X : Cx) (e : Expr) (m : Env → M Bool) : Prop where
  pw : PW X e (tT X.K X.mg m)
theorem PT.mono {X : Cx} {e : Expr} {t t' : TT} (h : PT X e t) (k : ∀ σ H Q, t' σ H Q → t σ H Q) : PT X e t' := ⟨fun pins s σ H Q I q => h.run pins s σ H Q I (k σ H Q q)⟩
theorem PW.mono {X : Cx} {e : Expr} {t t' : TT} (h : PW X e t) (k : ∀ σ H Q, t' σ H Q → t σ H Q) : PW X e t' := ⟨fun wh pins s σ H Q I q => h.run wh pins s σ H Q I (k σ H Q q)⟩
def asB : D → M Bool
  | .bl b => ret b
  | _ => stuck
def tst (m : Env → M D) : Env → M Bool := fun env => bnd (m env) asB
theorem asB_some {d : D} {S S' : List O} {b : Bool} (h : asB d S = some (b, S')) : d = .bl b ∧ S' = S := by
  cases d <;> simp only [asB, stuck, ret, reduceCtorEq, Option.some.injEq, Prod.mk.injEq] at h
  exact ⟨by rw [h.1], h.2.symm⟩
section
variable {X : Cx} {a b c e : Expr} {ma mb mc m : Env → M D} {ta tb : Env → M Bool} {pos : Pos} {r r' : R2} {f f' : D → D → M D} {rest : List Expr}
theorem runT {σ : L2.St} {H : Hp} {Q : Bool → Hp → Prop} (h : tT X.K X.mg (tst m) σ H Q) : tE X.K X.mg m σ H fun x H1 => ∃ k, x = .bl k ∧ Q k H1 := by
  obtain ⟨W, env, S, e, s, b, S', h, g⟩ := h
  obtain ⟨d, S1, h1, h⟩ := bnd_some h
  obtain ⟨rfl, rfl⟩ := asB_some h
  refine ⟨W, env, S, e, s, _, _, h1, fun W1 v1 H1 le1 f1 s1 i1 => ?_⟩
  cases i1
  exact ⟨_, rfl, g W1 H1 le1 f1 s1⟩
theorem dt_val (h : Dn X e m) (he : ∀ whole, isTrue e X.env whole = (do let v ← whole; standAt e.pos; holding [v] (truthy v)) := by intro _; rfl) : DnT X e (tst m) :=
  ⟨PT.mono (pt_val h.pe he) fun _ _ _ h => runT h⟩
theorem dt_cmp {op : CmpOp} (ho : OpR X (compareOp op) r) (hs : RS2 X.K X.mg r f) (ha : Dn X a ma) (hb : Dn X b mb) (hm : behindInMarks op b = false) : DnT X (.Compare a [op] [b] pos) (tst (bin f ma mb)) :=
  ⟨PT.mono (pt_cmpR ho ha.pe hb.pe hm) fun σ H Q h => run2 hs (runT h)⟩
/-- a op b op' c -/
def chn (f f' : D → D → M D) (ma mb mc : Env → M D) : Env → M D := fun env => bnd (ma env) fun x => bnd (mb env) fun y => bnd (f x y) fun z => bnd (asB z) fun k => if k = true then bnd (mc env) fun w => f' y w else ret (.bl false)
theorem runC {σ : L2.St} {H : Hp} {Q : VK} (hs : RS2 X.K X.mg r f) (hs' : RS2 X.K X.mg r' f') (h : tE X.K X.mg (chn f f' ma mb mc) σ H Q) : tChain r r' (tE X.K X.mg ma) (tE X.K X.mg mb) (tE X.K X.mg mc) σ H Q := by
  obtain ⟨W, env, S, e, s, d, S', h, g⟩ := h
  obtain ⟨x, S1, h1, h⟩ := bnd_some h
  obtain ⟨y, S2, h2, h⟩ := bnd_some h
  obtain ⟨z, S3, h3, h⟩ := bnd_some h
  obtain ⟨k, S4, h4, h'⟩ := bnd_some h
  clear h
  obtain ⟨rfl, rfl⟩ := asB_some h4
  refine ⟨W, env, S, e, s, x, S1, h1, fun W1 v1 H1 le1 f1 s1 i1 => ?_⟩
  refine ⟨W1, env, S1, e.mono le1, s1, y, S2, h2, fun W2 v2 H2 le2 f2 s2 i2 => ?_⟩
  refine hs W2 S2 H2 v1 v2 x y _ _ _ s2 (i1.mono le2) i2 h3 fun W3 v3 H3 le3 f3 s3 i3 => ?_
  cases i3
  refine ⟨k, rfl, ?_⟩
  have g3 := ((g.step s le1 f1 s1).step s1 le2 f2 s2).step s2 le3 f3 s3
  cases k with
  | false => rw [if_neg Bool.false_ne_true] at h' ⊢; cases h'; exact g3.here s3 (.bl _)
  | true =>
    rw [if_pos rfl] at h' ⊢
    obtain ⟨w, S5, h5, h2'⟩ := bnd_some h'
    refine ⟨W3, env, _, ((e.mono le1).mono le2).mono le3, s3, w, S5, h5, fun W4 v4 H4 le4 f4 s4 i4 => ?_⟩
    exact hs' W4 S5 H4 v2 v4 y w d S' Q s4 ((i2.mono le3).mono le4) i4 h2' (g3.step s3 le4 f4 s4)
theorem dn_chain {op op' : CmpOp} (ho : OpR X (compareOp op) r) (hs : RS2 X.K X.mg r f) (ho' : OpR X (compareOp op') r') (hs' : RS2 X.K X.mg r' f') (ha : Dn X a ma) (hb : Dn X b mb) (hc : Dn X c mc)
    (hm : lastMarks [op, op'] [b, c] = false := by with_unfolding_all rfl) : Dn X (.Compare a [op, op'] [b, c] pos) (chn f f' ma mb mc) := ⟨PE.mono (pe_chain ho ho' ha.pe hb.pe hc.pe hm) fun _ _ _ h => runC hs hs' h⟩
theorem dt_chain {op op' : CmpOp} (ho : OpR X (compareOp op) r) (hs : RS2 X.K X.mg r f) (ho' : OpR X (compareOp op') r') (hs' : RS2 X.K X.mg r' f') (ha : Dn X a ma) (hb : Dn X b mb) (hc : Dn X c mc)
    (hm : lastMarks [op, op'] [b, c] = false := by with_unfolding_all rfl) : DnT X (.Compare a [op, op'] [b, c] pos) (tst (chn f f' ma mb mc)) := ⟨PT.mono (pt_chain ho ho' ha.pe hb.pe hc.pe hm) fun _ _ _ h => runC hs hs' (runT h)⟩
/-! and, or, not -/
def andT (ta tb : Env → M Bool) : Env → M Bool := fun env => bnd (ta env) fun k => if k = true then tb env else ret false
def orT (ta tb : Env → M Bool) : Env → M Bool := fun env => bnd (ta env) fun k => if k = true then ret true else tb env
def notT (ta : Env → M Bool) : Env → M Bool := fun env => bnd (ta env) fun k => ret (!k)
theorem GoT.step {K : PySem.W.Frag} {mg : Str → Option Value} {W W1 : Wd} {S S1 S2 : List O} {H H1 : Hp} {d : Bool} {Q : Bool → Hp → Prop} (s : StRel K mg W S H) (le1 : W.le W1) (f1 : Frame W W1 H H1) (s1 : StRel K mg W1 S1 H1) (g : GoT K mg W H S2 d Q) : GoT K mg W1 H1 S2 d Q :=
  fun W' H' le f s' => g W' H' (le1.trans le) (f1.trans s s1 le1 f le) s'
theorem runAnd {σ : L2.St} {H : Hp} {Q : Bool → Hp → Prop} (h : tT X.K X.mg (andT ta tb) σ H Q) : tAnd (tT X.K X.mg ta) (tT X.K X.mg tb) σ H Q := by
  obtain ⟨W, env, S, e, s, d, S', h, g⟩ := h
  obtain ⟨k, S1, h1, h⟩ := bnd_some h
  refine ⟨W, env, S, e, s, k, S1, h1, fun W1 H1 le1 f1 s1 => ?_⟩
  cases k with
  | false => rw [if_neg Bool.false_ne_true] at h ⊢; cases h; exact g W1 H1 le1 f1 s1
  | true => rw [if_pos rfl] at h ⊢; exact ⟨W1, env, S1, e.mono le1, s1, d, S', h, g.step s le1 f1 s1⟩
theorem runOr {σ : L2.St} {H : Hp} {Q : Bool → Hp → Prop} (h : tT X.K X.mg (orT ta tb) σ H Q) : tOr (tT X.K X.mg ta) (tT X.K X.mg tb) σ H Q := by
  obtain ⟨W, env, S, e, s, d, S', h, g⟩ := h
  obtain ⟨k, S1, h1, h⟩ := bnd_some h
  refine ⟨W, env, S, e, s, k, S1, h1, fun W1 H1 le1 f1 s1 => ?_⟩
  cases k with
  | true => rw [if_pos rfl] at h ⊢; cases h; exact g W1 H1 le1 f1 s1
  | false => rw [if_neg Bool.false_ne_true] at h ⊢; exact ⟨W1, env, S1, e.mono le1, s1, d, S', h, g.step s le1 f1 s1⟩
theorem dw_and1 (ha : DnT X a ta) : DnW X (.BoolOp .And [a] pos) ta := ⟨pw_and1 ha.pt⟩
theorem dw_or1 (ha : DnT X a ta) : DnW X (.BoolOp .Or [a] pos) ta := ⟨pw_or1 ha.pt⟩
theorem dw_and (ha : DnT X a ta) (hb : DnW X (.BoolOp .And (b :: rest) pos) tb) : DnW X (.BoolOp .And (a :: b :: rest) pos) (andT ta tb) := ⟨PW.mono (pw_and ha.pt hb.pw) fun _ _ _ h => runAnd h⟩
theorem dw_or (ha : DnT X a ta) (hb : DnW X (.BoolOp .Or (b :: rest) pos) tb) : DnW X (.BoolOp .Or (a :: b :: rest) pos) (orT ta tb) := ⟨PW.mono (pw_or ha.pt hb.pw) fun _ _ _ h => runOr h⟩
theorem dt_w (h : DnW X e ta) : DnT X e ta := ⟨h.pw.pt⟩
theorem dt_not (ha : DnT X a ta) : DnT X (.UnaryOp .Not a pos) (notT ta) := ⟨PT.mono (pt_not ha.pt) fun σ H Q ⟨W, env, S, e, s, d, S', h, g⟩ => by
  obtain ⟨k, S1, h1, h⟩ := bnd_some h
  cases h
  exact ⟨W, env, S, e, s, k, _, h1, g⟩⟩
/-! the same as values -/
def andV (ma mb : Env → M D) : Env → M D := fun env => bnd (ma env) fun x => bnd (asB x) fun k => if k = true then mb env else ret (.bl false)
def orV (ma mb : Env → M D) : Env → M D := fun env => bnd (ma env) fun x => bnd (asB x) fun k => if k = true then ret (.bl true) else mb env
def notV (ma : Env → M D) : Env → M D := fun env => bnd (ma env) fun x => bnd (asB x) fun k => ret (.bl (!k))
theorem dn_one {op} (h : Dn X a m) : Dn X (.BoolOp op [a] pos) m := ⟨pe_one h.pe⟩
theorem dn_and (ha : Dn X a ma) (hb : Dn X (.BoolOp .And (b :: rest) pos) mb) : Dn X (.BoolOp .And (a :: b :: rest) pos) (andV ma mb) := ⟨PE.mono (pe_and ha.pe hb.pe) fun σ H Q ⟨W, env, S, e, s, d, S', h, g⟩ => by
  obtain ⟨x, S1, h1, h⟩ := bnd_some h
  obtain ⟨k, S2, h2, h'⟩ := bnd_some h
  clear h
  obtain ⟨rfl, rfl⟩ := asB_some h2
  refine ⟨W, env, S, e, s, _, _, h1, fun W1 v1 H1 le1 f1 s1 i1 => ?_⟩
  cases i1
  refine ⟨k, rfl, ?_⟩
  cases k with
  | false => rw [if_neg Bool.false_ne_true] at h' ⊢; cases h'; exact (g.step s le1 f1 s1).here s1 (.bl _)
  | true => rw [if_pos rfl] at h' ⊢; exact ⟨W1, env, _, e.mono le1, s1, d, S', h', g.step s le1 f1 s1⟩⟩
theorem dn_or (ha : Dn X a ma) (hb : Dn X (.BoolOp .Or (b :: rest) pos) mb) : Dn X (.BoolOp .Or (a :: b :: rest) pos) (orV ma mb) := ⟨PE.mono (pe_or ha.pe hb.pe) fun σ H Q ⟨W, env, S, e, s, d, S', h, g⟩ => by
  obtain ⟨x, S1, h1, h⟩ := bnd_some h
  obtain ⟨k, S2, h2, h'⟩ := bnd_some h
  clear h
  obtain ⟨rfl, rfl⟩ := asB_some h2
  refine ⟨W, env, S, e, s, _, _, h1, fun W1 v1 H1 le1 f1 s1 i1 => ?_⟩
  cases i1
  refine ⟨k, rfl, ?_⟩
  cases k with
  | true => rw [if_pos rfl] at h' ⊢; cases h'; exact (g.step s le1 f1 s1).here s1 (.bl _)
  | false => rw [if_neg Bool.false_ne_true] at h' ⊢; exact ⟨W1, env, _, e.mono le1, s1, d, S', h', g.step s le1 f1 s1⟩⟩
theorem dn_not (ha : Dn X a ma) : Dn X (.UnaryOp .Not a pos) (notV ma) := ⟨PE.mono (pe_not ha.pe) fun σ H Q ⟨W, env, S, e, s, d, S', h, g⟩ => by
  obtain ⟨x, S1, h1, h⟩ := bnd_some h
  obtain ⟨k, S2, h2, h⟩ := bnd_some h
  obtain ⟨rfl, rfl⟩ := asB_some h2
  cases h
  refine ⟨W, env, S, e, s, _, _, h1, fun W1 v1 H1 le1 f1 s1 i1 => ?_⟩
  cases i1
  exact ⟨k, rfl, (g.step s le1 f1 s1).here s1 (.bl _)⟩⟩
def ifV (tc : Env → M Bool) (ma mb : Env → M D) : Env → M D := fun env => bnd (tc env) fun k => if k = true then ma env else mb env
theorem dn_if (hc : DnT X c ta) (ha : Dn X a ma) (hb : Dn X b mb) : Dn X (.IfExp c a b pos) (ifV ta ma mb) := ⟨PE.mono (pe_ifExp hc.pt ha.pe hb.pe) fun σ H Q ⟨W, env, S, e, s, d, S', h, g⟩ => by
  obtain ⟨k, S1, h1, h⟩ := bnd_some h
  refine ⟨W, env, S, e, s, k, S1, h1, fun W1 H1 le1 f1 s1 => ?_⟩
  have g1 := g.step s le1 f1 s1
  show if k = true then _ else _
  cases k with
  | true => rw [if_pos rfl] at h ⊢; exact ⟨W1, env, S1, e.mono le1, s1, d, S', h, g1⟩
  | false => rw [if_neg Bool.false_ne_true] at h ⊢; exact ⟨W1, env, S1, e.mono le1, s1, d, S', h, g1⟩⟩

/-! ### subscripts -/
def ixD (x y : D) : M D := match x, y with
  | .lst ds, .int i => lift (atI ds i)
  | .tup ds, .int i => lift (atI ds i)
  | .scr ns, .int i => lift ((atI ns i).map D.int)
  | .str z, .int i => if z.length ≤ sizeLine then lift ((atI z.cps.toList i).map fun c => D.str ⟨#[c]⟩) else stuck
  | .ref l, .int i => fun S => match S[l]? with
    | some (.lst ds) => lift (atI ds i) S
    | _ => none
  | _, _ => stuck
theorem atI_is {K : PySem.W.Frag} {mg : Str → Option Value} {W : Wd} {vs : List V} {ds : List D} {i : Int} {d : D} (h : IsVs K mg W vs ds) (e : atI ds i = some d) : ∃ v, atI vs i = some v ∧ IsV K mg W v d := by
  unfold atI at e ⊢
  rw [h.length]
  cases q : ixN ds.length i with
  | none => rw [q] at e; cases e
  | some j => rw [q] at e; exact h.get e
theorem lift_some {α : Type} {x : Option α} {S S' : List O} {a : α} (h : lift x S = some (a, S')) : x = some a ∧ S' = S := by
  cases x <;> simp [lift] at h
  exact ⟨by rw [h.1], h.2.symm⟩
theorem rs_ix {K : PySem.W.Frag} {mg : Str → Option Value} : RS2 K mg (rIx K) ixD := fun W S H x y d e z S' Q s i j q k => by
  unfold ixD at q
  split at q
  · have ⟨q1, e0⟩ := lift_some q
    subst e0
    cases i with
    | lst ha ia => cases j; obtain ⟨v, e1, e2⟩ := atI_is ia q1; exact .inl ⟨_, _, _, v, rfl, rfl, SqL.of (s.zh _ _ ha), e1, k.here s e2⟩
  · have ⟨q1, e0⟩ := lift_some q
    subst e0
    cases i with
    | tup ha ia => cases j; obtain ⟨v, e1, e2⟩ := atI_is ia q1; exact .inr (.inl ⟨_, _, _, v, rfl, rfl, TupX.up s ha, e1, k.here s e2⟩)
  · rename_i ns0 i0
    have ⟨q1, e0⟩ := lift_some q
    subst e0
    cases i with
    | scr ha =>
      cases j
      cases c : atI ns0 i0 with
      | none => rw [c] at q1; cases q1
      | some n =>
        rw [c] at q1; cases q1
        refine .inl ⟨_, ns0.map V.int, _, .int n, rfl, rfl, (ha.mono fun _ => s.zh _ _).l, ?_, k.here s (.int _)⟩
        unfold atI at c ⊢
        rw [List.length_map]
        cases q : ixN ns0.length i0 with
        | none => rw [q] at c; cases c
        | some j => rw [q] at c; show (ns0.map V.int)[j]? = _; rw [List.getElem?_map, show ns0[j]? = some n from c]; rfl
  · rename_i z0 i0
    split at q
    · rename_i hc
      have ⟨q1, e0⟩ := lift_some q
      subst e0
      cases i; cases j
      cases c : atI z0.cps.toList i0 with
      | none => rw [c] at q1; cases q1
      | some n => rw [c] at q1; cases q1; exact .inr (.inr ⟨_, _, n, rfl, rfl, hc, c, k.here s (.str _)⟩)
    · cases q
  · rename_i l0 i0
    split at q
    · rename_i ds0 hl
      have ⟨q1, e0⟩ := lift_some q
      subst e0
      cases i with
      | ref hn =>
        cases j
        obtain ⟨vs, h1, h2, _⟩ := s.ob l0 _ hl
        obtain ⟨v, e1, e2⟩ := atI_is h2 q1
        exact .inl ⟨_, _, _, v, rfl, rfl, SqL.of h1, e1, k.here s e2⟩
    · cases q
  · cases q
theorem dn_sub1 (ha : Dn X a ma) (hb : Dn X b mb) (hm : PlainIx b := by intro _ _; rfl) : Dn X (.Subscript a b pos) (bin ixD ma mb) := dn_ix ix_seq rs_ix ha hb hm
/-! slices -/
structure DnO (X : Cx) (e : Option Expr) (m : Env → M (Option Int)) : Prop where
  po : PO X e (fun σ H Q => ∃ (W : Wd) (env : Env) (S : List O), ERel X.K X.mg W env σ ∧ StRel X.K X.mg W S H ∧ ∃ o S', m env S = some (o, S') ∧ ∀ W' H', W.le W' → Frame W W' H H' → StRel X.K X.mg W' S' H' → Q o H')
theorem PO.mono {X : Cx} {e : Option Expr} {t t' : TO} (h : PO X e t) (k : ∀ σ H Q, t' σ H Q → t σ H Q) : PO X e t' := ⟨fun pins s σ H Q I q => h.run pins s σ H Q I (k σ H Q q)⟩
theorem do_none : DnO X none (fun _ => ret none) := ⟨PO.mono po_none fun σ H Q ⟨W, env, S, e, s, d, S', h, g⟩ => by cases h; exact g W H (.refl _) (.refl _ _) s⟩
def asI : D → M (Option Int)
  | .int i => ret (some i)
  | _ => stuck
theorem do_some (h : Dn X e m) : DnO X (some e) (fun env => bnd (m env) asI) := ⟨PO.mono (po_some h.pe) fun σ H Q ⟨W, env, S, e, s, d, S', h, g⟩ => by
  obtain ⟨x, S1, h1, h⟩ := bnd_some h
  refine ⟨W, env, S, e, s, x, S1, h1, fun W1 v1 H1 le1 f1 s1 i1 => ?_⟩
  cases x <;> simp only [asI, stuck, ret, reduceCtorEq, Option.some.injEq, Prod.mk.injEq] at h
  obtain ⟨rfl, rfl⟩ := h
  cases i1
  exact ⟨_, rfl, g W1 H1 le1 f1 s1⟩⟩
def cutG {α : Type} (xs : List α) (lo hi : Option Int) : List α := (xs.drop (HT.sIx xs.length 0 lo)).take (HT.sIx xs.length xs.length hi - HT.sIx xs.length 0 lo)
def cutD (x : D) (lo hi : Option Int) : M D := match x with
  | .lst ds => ret (.lst (cutG ds lo hi))
  | .tup ds => ret (.tup (cutG ds lo hi))
  | .scr ns => ret (.lst ((cutG ns lo hi).map .int))
  | .str z => if z.length ≤ sizeLine then ret (.str (cutS z lo hi)) else stuck
  | _ => stuck
def rSlAll (K : PySem.W.Frag) : V → Option Int → Option Int → Hp → VK → Prop := fun x lo hi H Q => rSlL K x lo hi H Q ∨ xSl K x lo hi H Q ∨ (∃ z, x = .str z ∧ z.length ≤ sizeLine ∧ Q (.str (cutS z lo hi)) H)
theorem IsVs.cut {K : PySem.W.Frag} {mg : Str → Option Value} {W : Wd} {vs : List V} {ds : List D} (i : IsVs K mg W vs ds) (lo hi : Option Int) : IsVs K mg W (cutV vs lo hi) (cutG ds lo hi) := by
  unfold cutV cutG
  rw [i.length]
  exact (i.drop _).take _
theorem op_slAll : SlR X (rSlAll X.K) := SlR.or sl_list (SlR.or ox_sl sl_str)
def slM (ma : Env → M D) (ml mh : Env → M (Option Int)) : Env → M D := fun env => bnd (ma env) fun x => bnd (ml env) fun lo => bnd (mh env) fun hi => cutD x lo hi
theorem rs_cut {K : PySem.W.Frag} {mg : Str → Option Value} {W : Wd} {S S' : List O} {H : Hp} {v : V} {x d : D} {lo hi : Option Int} {Q : VK} (s : StRel K mg W S H) (i : IsV K mg W v x) (q : cutD x lo hi S = some (d, S')) (k : Go K mg W H S' d Q) : rSlAll K v lo hi H Q := by
  unfold cutD at q
  split at q
  · cases q
    cases i with
    | lst ha ia => exact .inl ⟨_, _, rfl, SqL.of (s.zh _ _ ha), fun p hp => k.lst s (ia.cut lo hi) hp⟩
  · cases q
    rename_i es
    cases i with
    | @tup a vs _ ha ia =>
      refine .inr (.inl ⟨_, _, rfl, TupX.up s ha, fun hw => ?_, fun _ => k.tup s (ia.cut lo hi)⟩)
      have e : cutG es lo hi = es := by
        unfold cutG
        rw [← ia.length, hw.1, hw.2, ia.length, List.drop_zero, Nat.sub_zero, List.take_length]
      rw [e] at k
      exact k.here s (.tup ha ia)
  · cases q
    rename_i ns
    cases i with
    | scr ha =>
      refine .inl ⟨_, ns.map V.int, rfl, (ha.mono fun _ => s.zh _ _).l, fun p hp => ?_⟩
      have e : cutV (ns.map V.int) lo hi = (cutG ns lo hi).map V.int := by
        unfold cutV cutG
        rw [List.length_map, List.map_take, List.map_drop]
      rw [e]
      exact k.lst s (IsVs.of_ints _) hp
  · split at q
    · rename_i hc
      cases q; cases i; exact .inr (.inr ⟨_, rfl, hc, k.here s (.str _)⟩)
    · cases q
  · cases q
theorem dn_slice {lo hi : Option Expr} {ml mh : Env → M (Option Int)} {p2 : Pos} (ha : Dn X a ma) (hl : DnO X lo ml) (hh : DnO X hi mh) : Dn X (.Subscript a (.Slice lo hi none p2) pos) (slM ma ml mh) :=
  ⟨PE.mono (pe_slice op_slAll ha.pe hl.po hh.po) fun σ H Q ⟨W, env, S, e, s, d, S', h, g⟩ => by
    obtain ⟨x, S1, h1, h⟩ := bnd_some h
    obtain ⟨l, S2, h2, h⟩ := bnd_some h
    obtain ⟨u, S3, h3, h⟩ := bnd_some h
    refine ⟨W, env, S, e, s, x, S1, h1, fun W1 v1 H1 le1 f1 s1 i1 => ?_⟩
    refine ⟨W1, env, S1, e.mono le1, s1, l, S2, h2, fun W2 H2 le2 f2 s2 => ?_⟩
    refine ⟨W2, env, S2, (e.mono le1).mono le2, s2, u, S3, h3, fun W3 H3 le3 f3 s3 => ?_⟩
    exact rs_cut s3 ((i1.mono le2).mono le3) h (((g.step s le1 f1 s1).step s1 le2 f2 s2).step s2 le3 f3 s3)⟩

/-! ### attributes -/
def fldOf (c f : Str) : D → M D
  | .obj c' ns ds => if c' = c then lift ((ns.zip ds).lookup f) else stuck
  | .ref l => fun S => match S[l]? with
    | some (.ins c' ns ds) => if c' = c then lift ((ns.zip ds).lookup f) S else none
    | _ => none
  | _ => stuck
theorem lookup_is {K : PySem.W.Frag} {mg : Str → Option Value} {W : Wd} : ∀ {fs : List (Str × V)} {ds : List D} {f : Str} {d : D}, IsVs K mg W (fs.map (·.2)) ds → ((fs.map (·.1)).zip ds).lookup f = some d → ∃ v, fs.lookup f = some v ∧ IsV K mg W v d
  | [], _, f, d, i, e => by simp at e
  | (n, v) :: r, d0 :: ds, f, d, .cons i1 i2, e => by
    simp only [List.map_cons, List.zip_cons_cons, List.lookup_cons] at e ⊢
    cases q : f == n with
    | true => rw [q] at e; cases e; exact ⟨v, rfl, i1⟩
    | false => rw [q] at e; exact lookup_is (fs := r) i2 e
/-- what a class's attributes ask of the written part -/
def Att (X : Cx) (c f : Str) : Prop := ∀ C, X.mg c = some (.ref C) → Cls X.K C ∧ NoAttr X.K C f
theorem dn_fld (c : Str) {f : Str} (hc : Att X c f) (ha : Dn X a ma) (hb : attributeBase a f X.env (eval a X.env) = eval a X.env := by rfl) : Dn X (.Attribute a f pos) (fun env => bnd (ma env) (fldOf c f)) :=
  ⟨PE.mono (pe_fld ha.pe hb) fun σ H Q ⟨W, env, S, e, s, d, S', h, g⟩ => by
    obtain ⟨x, S1, h1, h⟩ := bnd_some h
    refine ⟨W, env, S, e, s, x, S1, h1, fun W1 v1 H1 le1 f1 s1 i1 => ?_⟩
    have g1 := g.step s le1 f1 s1
    cases x <;> simp only [fldOf, stuck, reduceCtorEq] at h
    · split at h
      · rename_i hcc
        have ⟨q1, e0⟩ := lift_some h
        subst e0
        cases i1 with
        | obj ha hm hn ia =>
          subst hcc hn
          obtain ⟨v, e1, e2⟩ := lookup_is ia q1
          obtain ⟨k1, k2⟩ := hc _ hm
          exact ⟨_, _, _, _, v, rfl, s1.zh _ _ ha, k1, k2, e1, g1.here s1 e2⟩
      · cases h
    · rename_i l
      cases q : S1[l]? with
      | none => rw [q] at h; cases h
      | some o =>
        rw [q] at h
        cases o with
        | lst ds => cases h
        | tab x => cases h
        | dic ks ds => cases h
        | tic b => cases h
        | ins c' ns ds =>
          simp only at h
          split at h
          · rename_i hcc
            have ⟨q1, e0⟩ := lift_some h
            subst e0
            cases i1 with
            | ref hl =>
              obtain ⟨C, dx, fs, h1, h2, h3, h4, h5⟩ := s1.ob l _ q
              subst hcc h3
              obtain ⟨v, e1, e2⟩ := lookup_is h4 q1
              obtain ⟨k1, k2⟩ := hc _ h2
              exact ⟨_, _, _, _, v, rfl, h1, k1, k2, e1, g1.here s1 e2⟩
          · cases h⟩
end
end Pm

set_option Elab.async false
set_option linter.all false
set_option maxRecDepth 100000
set_option maxHeartbeats 600000
/-! Pm5: own defs called, instances made, walks, comprehensions. -/
namespace Pm
open PySem PySem.Spec PyProof.Rows L2

/-! ### own defs -/
def spF (K : PySem.W.Frag) (mg : Str → Option Value) (n : Nat) (C : List D → M D) : Sp := fun vs H Q _ =>
  ∃ (W : Wd) (S : List O) (ds : List D), IsVs K mg W vs ds ∧ StRel K mg W S H ∧ ds.length = n ∧ ∃ d S', C ds S = some (d, S') ∧ Go K mg W H S' d Q
/-- the def x stands at f and computes C, at most k calls deep -/
structure FnD (P : Program) (w : World) (K : PySem.W.Frag) (mg : Str → Option Value) (base : Heap) (x : Str) (f : Addr) (fd : FuncData) (k : Nat) (ps : List Str) (C : List D → M D) : Prop where
  ok : FnOk P w K mg base CX0 k f fd ps (spF K mg ps.length C)
  g : mg x = some (.ref f)
  kp : PySem.W.keepIn K (.ref f) = true
  bn : Binds K fd ps []
section
variable {X : Cx} {e : Expr} {es : List Expr} {m : Env → M (List D)} {pos p : Pos} {x : Str} {f : Addr} {fd : FuncData} {k j : Nat} {ps : List Str} {C : List D → M D}
theorem runF {n : Nat} {σ : L2.St} {H : Hp} {Q : VK} {E : XK} {dvs : List V} {dds : List D} (hd : ∀ W, IsVs X.K X.mg W dvs dds) (h : tE X.K X.mg (fun env => bnd (m env) fun ds => if ds.length + dds.length = n then C (ds ++ dds) else stuck) σ H Q) : tCall (spF X.K X.mg n C) dvs E (tA X.K X.mg m) σ H Q := by
  obtain ⟨W, env, S, e, s, d, S', h, g⟩ := h
  obtain ⟨ds, S1, h1, h⟩ := bnd_some h
  split at h
  · rename_i hl
    refine ⟨W, env, S, e, s, ds, S1, h1, fun W1 v1 H1 le1 f1 s1 i1 => ?_⟩
    exact ⟨W1, S1, ds ++ dds, i1.append (hd _), s1, by rw [List.length_append]; exact hl, d, S', h, g.step s le1 f1 s1⟩
  · cases h
def callF (n : Nat) (C : List D → M D) (m : Env → M (List D)) : Env → M D := fun env => bnd (m env) fun ds => if ds.length + 0 = n then C ds else stuck
theorem dn_call (F : FnD X.prog X.w X.K X.mg X.base x f fd k ps C) (hr : Room j X.A) (hk : k ≤ j) (ha : DnA X (e :: es) m) (hg : Gl X x := by rfl) (hdb : (x == ("__debug__" : Str)) = false := by decide)
    (he : starEach (e :: es) X.env = (false, eval e X.env) :: starEach es X.env := by rfl) (hpl : (backTo pos (starEach es X.env)).any (·.1) = false := by rfl) : Dn X (.Call (.Name x p) (e :: es) [] pos) (callF ps.length C m) :=
  ⟨PE.mono (pe_call (E := E0) F.ok (hr.mono hk) hg F.g F.kp F.bn .nil pass0 ha.pa hdb he hpl) fun _ _ _ h => runF (dds := []) (fun _ => .nil) (by simp only [List.length_nil, List.append_nil]; exact h)⟩
/-- defaults that fill up -/
theorem dn_callD {dvs : List V} {dds : List D} {dus : List Value} (F : FnD X.prog X.w X.K X.mg X.base x f fd k ps C) (hr : Room j X.A) (hk : k ≤ j) (hb : Binds X.K fd ps dus) (hv : Vals dvs dus) (hd : ∀ W, IsVs X.K X.mg W dvs dds) (ha : DnA X (e :: es) m) (hg : Gl X x := by rfl) (hdb : (x == ("__debug__" : Str)) = false := by decide)
    (he : starEach (e :: es) X.env = (false, eval e X.env) :: starEach es X.env := by rfl) (hpl : (backTo pos (starEach es X.env)).any (·.1) = false := by rfl) : Dn X (.Call (.Name x p) (e :: es) [] pos) (fun env => bnd (m env) fun ds => if ds.length + dds.length = ps.length then C (ds ++ dds) else stuck) :=
  ⟨PE.mono (pe_call (E := E0) F.ok (hr.mono hk) hg F.g F.kp hb hv pass0 ha.pa hdb he hpl) fun _ _ _ h => runF hd h⟩
/-! keywords -/
structure DnK (X : Cx) (kws : List Keyword) (m : Env → M (List D)) : Prop where
  pk : PK X kws (tA X.K X.mg m)
theorem PK.mono {e : List Keyword} {t t' : TA} (h : PK X e t) (k : ∀ σ H Q, t' σ H Q → t σ H Q) : PK X e t' := ⟨fun pos pins s σ H Q I q => h.run pos pins s σ H Q I (k σ H Q q)⟩
theorem dk_nil : DnK X [] (fun _ => ret []) := ⟨PK.mono pk_nil fun σ H Q ⟨W, env, S, e, s, d, S', h, g⟩ => by
  cases h; exact g W [] H (.refl _) (.refl _ _) s .nil⟩
theorem dk_cons {nm : Option Str} {kpos : Pos} {kws : List Keyword} {me : Env → M D} (h1 : Dn X e me) (h2 : DnK X kws m) : DnK X (⟨nm, e, kpos⟩ :: kws) (consA me m) :=
  ⟨PK.mono (pk_cons h1.pe h2.pk) fun σ H Q ⟨W, env, S, e, s, d, S', h, g⟩ => by
    obtain ⟨x, S1, h1, h⟩ := bnd_some h
    obtain ⟨xs, S2, h2, h⟩ := bnd_some h
    cases h
    refine ⟨W, env, S, e, s, x, S1, h1, fun W1 v1 H1 le1 f1 s1 i1 => ?_⟩
    refine ⟨W1, env, S1, e.mono le1, s1, xs, _, h2, fun W2 v2 H2 le2 f2 s2 i2 => ?_⟩
    exact g W2 _ H2 (le1.trans le2) (f1.trans s s1 le1 f2 le2) s2 (.cons (i1.mono le2) i2)⟩
/-- where the keywords' values go: place i of the parameters takes the value π[i] -/
def reord {α : Type} (π : List Nat) (xs : List α) : List α := π.filterMap (xs[·]?)
theorem reord_vals {π : List Nat} {vs : List V} {us : List Value} (r : Vals vs us) : Vals (reord π vs) (reord π us) := by
  unfold reord
  induction π with
  | nil => exact .nil
  | cons i r2 ih =>
    rw [List.filterMap_cons, List.filterMap_cons]
    cases q : vs[i]? with
    | none => rw [r.none_of q]; exact ih
    | some v => obtain ⟨u, e, h⟩ := r.get q; rw [e]; exact .cons h ih
theorem reord_is {W : Wd} {π : List Nat} {vs : List V} {ds : List D} (r : IsVs X.K X.mg W vs ds) : IsVs X.K X.mg W (reord π vs) (reord π ds) := by
  unfold reord
  induction π with
  | nil => exact .nil
  | cons i r2 ih =>
    rw [List.filterMap_cons, List.filterMap_cons]
    cases q : ds[i]? with
    | none =>
      have : vs[i]? = none := by
        have h1 := r.length
        have h2 := List.getElem?_eq_none_iff.mp q
        exact List.getElem?_eq_none_iff.mpr (by omega)
      rw [this]; exact ih
    | some d => obtain ⟨v, e, h⟩ := r.get q; rw [e]; exact .cons h ih
theorem kbn_of {K : PySem.W.Frag} {ks : List Str} {π : List Nat} (h : ∀ us : List Value, us.length = ks.length → bindArgs fd ⟨[], ks.zip us⟩ = pure (ps.zip (reord π us))) : KBn K fd ps 0 ks (fun _ ws => reord π ws) (fun _ zs => reord π zs) :=
  { to := fun s us ws _ h1 h2 => by
      cases us with
      | nil => exact .of_eq (h ws h2)
      | cons _ _ => cases h1
    rel := fun _ r => reord_vals r }
/-- f(k = v, ..) -/
def callK (n q : Nat) (π : List Nat) (C : List D → M D) (m : Env → M (List D)) : Env → M D := fun env => bnd (m env) fun ds => if ds.length = q ∧ (reord π ds).length = n then C (reord π ds) else stuck
theorem dn_callK {kws : List Keyword} {ks : List Str} {π : List Nat} (F : FnD X.prog X.w X.K X.mg X.base x f fd k ps C) (hr : Room j X.A) (hk : k ≤ j) (hb : KBn X.K fd ps 0 ks (fun _ ws => reord π ws) (fun _ zs => reord π zs)) (ha : DnK X kws m) (hg : Gl X x := by rfl)
    (hall : (backToKw pos (keywordEach kws X.env)).all (·.1.isSome) = true := by rfl) (hks : (backToKw pos (keywordEach kws X.env)).filterMap (·.1) = ks := by rfl) (hdb : (x == ("__debug__" : Str)) = false := by decide)
    (hpl : ((backTo pos (starEach [] X.env)).any (·.1) || (backToKw pos (keywordEach kws X.env)).any (·.1.isNone)) = false := by rfl) :
    Dn X (.Call (.Name x p) [] kws pos) (callK ps.length ks.length π C m) := by
  refine ⟨⟨fun pins s σ H Q I h => ?_⟩⟩
  obtain ⟨W, env, S, e, sr, d, S', h, g⟩ := h
  obtain ⟨ds, S1, h1, h⟩ := bnd_some h
  split at h
  · rename_i hl
    refine wpAny_Call_Name_kw (ld_glob I hg F.g ?_ hdb)
    refine PySem.W.callWith_KW0 (h₀ := X.base) I.ok.mod.kin F.kp hall (thn (ha.pk.run pos pins s σ H (fun vs H1 => vs.length = ks.length ∧ spF X.K X.mg ps.length C (reord π vs) H1 Q E0) I ⟨W, env, S, e, sr, ds, S1, h1, fun W1 v1 H1 le1 f1 s1 i1 => ?_⟩) fun ws s2 ⟨zs, H2, I2, rz, l2, q2⟩ => ⟨I2.kIn, ?_⟩) hpl
    · exact ⟨i1.length.trans hl.1, W1, S1, _, reord_is i1, s1, hl.2, d, S', h, g.step sr le1 f1 s1⟩
    · rw [hks]
      exact run_fnN (us := []) (vs := []) F.ok (hr.mono hk) hb pass0 I2 .nil rz rfl l2 q2
  · cases h
end

/-! ### instances -/
mutual
def D.und (n : Nat) : D → Prop
  | .tup ds => D.unds n ds
  | .tpl ds => D.unds n ds
  | .lst ds => D.unds n ds
  | .dct _ ds => D.unds n ds
  | .obj _ _ ds => D.unds n ds
  | .fn _ _ _ _ ds => D.unds n ds
  | .ref l => l < n
  | _ => True
def D.unds (n : Nat) : List D → Prop
  | [] => True
  | d :: ds => d.und n ∧ D.unds n ds
end
section
variable {K : PySem.W.Frag} {mg : Str → Option Value} {W W' : Wd}
mutual
theorem IsV.und : ∀ {v : V} {d : D}, IsV K mg W v d → d.und W.n
  | _, _, .non => True.intro
  | _, _, .bl _ => True.intro
  | _, _, .int _ => True.intro
  | _, _, .str _ => True.intro
  | _, .tup _, .tup _ b => IsVs.unds b
  | _, .tpl _, .tpl _ b => IsVs.unds b
  | _, .lst _, .lst _ b => IsVs.unds b
  | _, _, .scr _ => True.intro
  | _, .dct _ _, .dct _ _ b => IsVs.unds b
  | _, .obj _ _ _, .obj _ _ _ b => IsVs.unds b
  | _, _, .ref h => h
  | _, .fn _ _ _ _ _, .fn _ b => IsVs.unds b
theorem IsVs.unds : ∀ {vs : List V} {ds : List D}, IsVs K mg W vs ds → D.unds W.n ds
  | _, _, .nil => True.intro
  | _, _, .cons a b => ⟨IsV.und a, IsVs.unds b⟩
end
mutual
theorem IsV.cut (hz : ∀ a u, W.Z a = Option.some u → W'.Z a = Option.some u) (hr : ∀ l, W'.r l = W.r l) : ∀ {v : V} {d : D}, IsV K mg W v d → d.und W'.n → IsV K mg W' v d
  | _, _, .non, _ => .non
  | _, _, .bl _, _ => .bl _
  | _, _, .int _, _ => .int _
  | _, _, .str _, _ => .str _
  | _, .tup _, .tup a b, h => .tup (TupX.mono K hz a) (IsVs.cut' hz hr b h)
  | _, .tpl _, .tpl a b, h => .tpl (SqT.mono K hz a) (IsVs.cut' hz hr b h)
  | _, .lst _, .lst a b, h => .lst (hz _ _ a) (IsVs.cut' hz hr b h)
  | _, _, .scr a, _ => .scr (a.mono fun _ => hz _ _)
  | _, .dct _ _, .dct a e b, h => .dct (hz _ _ a) e (IsVs.cut' hz hr b h)
  | _, .obj _ _ _, .obj a c e b, h => .obj (hz _ _ a) c e (IsVs.cut' hz hr b h)
  | _, .ref l, .ref _, h => by rw [← hr]; exact .ref h
  | _, .fn _ _ _ _ _, .fn e b, h => .fn (hz _ _ e) (IsVs.cut' hz hr b h)
theorem IsVs.cut' (hz : ∀ a u, W.Z a = Option.some u → W'.Z a = Option.some u) (hr : ∀ l, W'.r l = W.r l) : ∀ {vs : List V} {ds : List D}, IsVs K mg W vs ds → D.unds W'.n ds → IsVs K mg W' vs ds
  | _, _, .nil, _ => .nil
  | _, _, .cons a b, h => .cons (IsV.cut hz hr a h.1) (IsVs.cut' hz hr b h.2)
end
def O.und (n : Nat) : O → Prop
  | .lst ds => D.unds n ds
  | .ins _ _ ds => D.unds n ds
  | .dic _ ds => D.unds n ds
  | .tic b => ∀ q ∈ b, q.1.und n ∧ q.2.und n
  | .tab _ => True
theorem ORel.und {H : Hp} {a : Addr} {o : O} (h : ORel K mg W H a o) : o.und W.n := by
  cases o with
  | lst ds => obtain ⟨vs, _, i, _⟩ := h; exact i.unds
  | ins c ns ds => obtain ⟨C, dx, fs, _, _, _, i, _⟩ := h; exact i.unds
  | dic ks ds => obtain ⟨kvs, _, _, i, _⟩ := h; exact i.unds
  | tic b => obtain ⟨xs, _, _, _, r, _⟩ := h; exact r.all fun v d i => i.und
  | tab x => exact True.intro
theorem ORel.cut (hz : ∀ a u, W.Z a = Option.some u → W'.Z a = Option.some u) (hr : ∀ l, W'.r l = W.r l) {H : Hp} {a : Addr} {o : O} (h : ORel K mg W H a o) (hb : o.und W'.n) : ORel K mg W' H a o := by
  cases o with
  | lst ds => obtain ⟨vs, h1, i, h2⟩ := h; exact ⟨vs, h1, IsVs.cut' hz hr i hb, h2⟩
  | ins c ns ds => obtain ⟨C, dx, fs, h1, h2, h3, i, h4⟩ := h; exact ⟨C, dx, fs, h1, h2, h3, IsVs.cut' hz hr i hb, h4⟩
  | dic ks ds => obtain ⟨kvs, h1, h2, i, h4⟩ := h; exact ⟨kvs, h1, h2, IsVs.cut' hz hr i hb, h4⟩
  | tic b => obtain ⟨xs, h1, h2, h3, r, h5⟩ := h; exact ⟨xs, h1, h2, h3, r.imp (fun v d i _ h => IsV.cut hz hr i h) hb, h5⟩
  | tab x => exact ⟨h.1, h.2.mono (fun _ => hz _ _) rfl⟩
end
open Classical in
/-- C(..): __init__ fills the new instance, which never changes from then on -/
noncomputable def makeD (c : Str) (n : Nat) (Ci : List D → M D) (ds : List D) : M D := fun S =>
  if ds.length + 1 = n then match Ci (.ref S.length :: ds) (S ++ [.ins c [] []]) with
    | some (.non, S') => match S'[S.length]? with
      | some (.ins c' ns fs) => if S' = S ++ [.ins c' ns fs] ∧ c' = c ∧ D.unds S.length fs then some (.obj c ns fs, S) else none
      | _ => none
    | _ => none
  else none
section
variable {K : PySem.W.Frag} {mg : Str → Option Value}
theorem makeD_some {c : Str} {n : Nat} {Ci : List D → M D} {ds : List D} {S S' : List O} {d : D} (h : makeD c n Ci ds S = some (d, S')) :
    ∃ ns fs, ds.length + 1 = n ∧ Ci (.ref S.length :: ds) (S ++ [.ins c [] []]) = some (.non, S ++ [.ins c ns fs]) ∧ D.unds S.length fs ∧ d = .obj c ns fs ∧ S' = S := by
  unfold makeD at h
  split at h
  · rename_i hl
    split at h
    · rename_i S2 e
      split at h
      · rename_i c' ns fs e2
        split at h
        · rename_i hc
          obtain ⟨h1, rfl, h3⟩ := hc
          cases h
          exact ⟨ns, fs, hl, by rw [e, h1], h3, rfl, rfl⟩
        · cases h
      · cases h
    · cases h
  · cases h
theorem rs_make {c : Str} {C : Addr} {n : Nat} {Ci : List D → M D} {W : Wd} {S S' : List O} {H : Hp} {vs : List V} {ds : List D} {d : D} {Q : VK} (hC : mg c = some (.ref C)) (s : StRel K mg W S H) (i : IsVs K mg W vs ds) (h : makeD c n Ci ds S = some (d, S')) (g : Go K mg W H S' d Q)
    {x dx : Addr} (hx : H x = none) (hdx : H dx = none) (hne : dx ≠ x) : spF K mg n Ci (.ref x :: (vs ++ [])) (upd (upd H dx (.own x)) x (.ins C dx [])) (fun v H2 => v = .non ∧ Q (.ref x) H2) E0 := by
  obtain ⟨ns, fs, hl, hi, hb, rfl, rfl⟩ := makeD_some h
  let H2 := upd (upd H dx (.own x)) x (.ins C dx [])
  let W1 : Wd := { Z := W.Z, r := fun l => if l = W.n then x else W.r l, n := W.n + 1 }
  have up : ∀ a o, H a = some o → H2 a = some o := fun a o e => by
    show upd _ _ _ a = _
    rw [upd_ne (ne_of_none e hx), upd_ne (ne_of_none e hdx)]; exact e
  have le1 : W.le W1 := ⟨fun _ _ h => h, Nat.le_succ _, fun l hl => by show (if l = W.n then x else W.r l) = _; rw [if_neg (Nat.ne_of_lt hl)]⟩
  have rn : W1.r W.n = x := by show (if W.n = W.n then x else W.r W.n) = _; rw [if_pos rfl]
  have hx2 : H2 x = some (.ins C dx []) := upd_same
  have s1 : StRel K mg W1 (S' ++ [.ins c [] []]) H2 := by
    refine ⟨by show W.n + 1 = _; rw [s.len, List.length_append]; rfl, fun a o e => up a o (s.zh a o e), fun l hl => ?_, fun l l' h1 h2 e => ?_, fun l o e => ?_⟩
    · by_cases q : l = W.n
      · rw [q, rn]
        show W.Z x = none
        cases z : W.Z x with
        | none => rfl
        | some o => rw [s.zh _ _ z] at hx; cases hx
      · have hl2 : l < W.n := by have : l < W.n + 1 := hl; omega
        rw [le1.r l hl2]; exact s.zr l hl2
    · have a1 : l < W.n + 1 := h1
      have a2 : l' < W.n + 1 := h2
      by_cases q : l = W.n
      · by_cases q' : l' = W.n
        · omega
        · rw [q, rn, le1.r l' (by omega)] at e
          exact absurd e.symm (s.ne hx (by omega))
      · by_cases q' : l' = W.n
        · rw [q', rn, le1.r l (by omega)] at e
          exact absurd e (s.ne hx (by omega))
        · rw [le1.r l (by omega), le1.r l' (by omega)] at e
          exact s.inj l l' (by omega) (by omega) e
    · by_cases q : l < S'.length
      · rw [List.getElem?_append_left q] at e
        have q2 : l < W.n := by rw [s.len]; exact q
        rw [le1.r l q2]
        obtain ⟨u, hu⟩ := s.at q2
        exact (s.ob l o e).mono le1 ((up _ _ hu).trans hu.symm)
      · rw [List.getElem?_append_right (Nat.le_of_not_lt q)] at e
        have q3 : l = S'.length := by
          cases z : l - S'.length with
          | zero => omega
          | succ m => rw [z] at e; simp at e
        subst q3
        rw [Nat.sub_self] at e
        cases e
        rw [← s.len, rn]
        exact ⟨C, dx, [], hx2, hC, rfl, .nil, rfl⟩
  refine ⟨W1, S' ++ [.ins c [] []], .ref S'.length :: ds, ?_, s1, by rw [List.length_cons]; exact hl, .non, _, hi, fun W2 v H3 le2 f2 s2 i2 => ?_⟩
  · rw [List.append_nil]
    refine .cons ?_ (i.mono le1)
    rw [← s.len, ← rn]
    exact .ref (Nat.lt_succ_self _)
  · cases i2
    refine ⟨rfl, ?_⟩
    have hn : W.n < W2.n := Nat.lt_of_lt_of_le (Nat.lt_succ_self W.n) le2.n
    have r2 : W2.r W.n = x := (le2.r W.n (Nat.lt_succ_self _)).trans rn
    obtain ⟨C', dx', fs', o1, o2, o3, o4, o5⟩ := s2.ob W.n (.ins c ns fs) (by rw [s.len, List.getElem?_append_right (Nat.le_refl _), Nat.sub_self]; rfl)
    rw [r2] at o1
    let W3 : Wd := { Z := upd W2.Z x (.ins C' dx' fs'), r := W2.r, n := W.n }
    have zx : W2.Z x = none := by rw [← r2]; exact s2.zr _ hn
    have hz : ∀ a o, W2.Z a = some o → W3.Z a = some o := fun a o e => by
      show upd _ _ _ a = _
      rw [upd_ne (fun q => by rw [q, zx] at e; cases e)]; exact e
    have len2 : W2.n = W.n + 1 := by rw [s2.len, List.length_append, s.len]; rfl
    refine g W3 _ H3 ⟨fun a o e => hz _ _ (le2.z _ _ e), Nat.le_refl _, fun l hl => (le2.r l (Nat.lt_succ_of_lt hl)).trans (le1.r l hl)⟩ ⟨fun a o e hr => ?_, fun l h1 h2 => absurd (Nat.lt_of_lt_of_le h2 h1) (Nat.lt_irrefl _), fun a o e => ?_⟩ ⟨s.len, fun a o e => ?_, fun l hl => ?_, fun l l' h1 h2 e => s2.inj l l' (Nat.lt_trans h1 hn) (Nat.lt_trans h2 hn) e, fun l o e => ?_⟩
      (.obj (by show upd _ _ _ _ = _; exact upd_same) o2 o3 (IsVs.cut' hz (fun _ => rfl) o4 (by show D.unds W.n fs; rw [s.len]; exact hb)))
    · refine f2.kp a o (up a o e) fun l hl q => ?_
      have hl : l < W.n + 1 := hl
      by_cases z : l = W.n
      · rw [z, rn] at q; rw [← q, hx] at e; cases e
      · rw [le1.r l (by omega)] at q; exact hr l (by omega) q
    · have e : upd W2.Z x (.ins C' dx' fs') a = some o := e
      by_cases q : a = x
      · rw [q]; exact .inr hx
      · rw [upd_ne q] at e
        rcases f2.fz a o e with z | z
        · exact .inl z
        · refine .inr ?_
          cases y : H a with
          | none => rfl
          | some u => have z2 := up a u y; rw [show H2 a = none from z] at z2; cases z2
    · have e : upd W2.Z x (.ins C' dx' fs') a = some o := e
      by_cases q : a = x
      · rw [q, upd_same] at e; rw [q, ← e]; exact o1
      · rw [upd_ne q] at e; exact s2.zh _ _ e
    · show upd W2.Z x _ (W2.r l) = none
      have hl : l < W.n := hl
      have q : W2.r l ≠ x := fun z => by
        have := s2.inj l W.n (Nat.lt_trans hl hn) hn (z.trans r2.symm)
        omega
      rw [upd_ne q]; exact s2.zr l (Nat.lt_trans hl hn)
    · have hl : l < S'.length := (List.getElem?_eq_some_iff.mp e).1
      have o' := s2.ob l o (by rw [List.getElem?_append_left hl]; exact e)
      exact ORel.cut hz (fun _ => rfl) o' (s.ob l o e).und
end
end Pm

set_option Elab.async false
set_option linter.all false
set_option maxRecDepth 100000
set_option maxHeartbeats 600000
/-! Pm6: walks, targets, comprehensions, ranges, dicts. -/
namespace Pm
open PySem PySem.Spec PyProof.Rows L2

/-! ### walks -/
def JRel (K : PySem.W.Frag) (mg : Str → Option Value) (J : It) (W : Wd) (ds : List D) : Prop :=
  ∀ W1 S1 H1, W.le W1 → StRel K mg W1 S1 H1 → (∀ i d, ds[i]? = some d → J.go i H1 ∧ ∀ x H2, J.yld i H1 x H2 → ∃ W2, W1.le W2 ∧ Frame W1 W2 H1 H2 ∧ StRel K mg W2 S1 H2 ∧ IsV K mg W2 x d) ∧ J.stop ds.length H1
theorem JRel.mono {K : PySem.W.Frag} {mg : Str → Option Value} {J : It} {W W' : Wd} {ds : List D} (h : JRel K mg J W ds) (le : W.le W') : JRel K mg J W' ds := fun W1 S1 H1 l s => h W1 S1 H1 (le.trans l) s
def tI (K : PySem.W.Frag) (mg : Str → Option Value) (m : Env → M (List D)) : TI := fun σ H R =>
  ∃ (W : Wd) (env : Env) (S : List O), ERel K mg W env σ ∧ StRel K mg W S H ∧ ∃ ds S', m env S = some (ds, S') ∧ ∀ W' J H', W.le W' → Frame W W' H H' → StRel K mg W' S' H' → JRel K mg J W' ds → R J H'
structure DnI (X : Cx) (tg iter : Expr) (m : Env → M (List D)) : Prop where
  pi : PI X tg iter (tI X.K X.mg m)
theorem PI.mono {X : Cx} {tg e : Expr} {t t' : TI} (h : PI X tg e t) (k : ∀ σ H Q, t' σ H Q → t σ H Q) : PI X tg e t' := ⟨fun pins s σ H Q I q => h.run pins s σ H Q I (k σ H Q q)⟩
section
variable {X : Cx} {e e2 tg : Expr} {me : Env → M D} {m : Env → M (List D)} {pos p : Pos}
theorem jr_list {K : PySem.W.Frag} {mg : Str → Option Value} {W : Wd} {a : Addr} {vs : List V} {ds : List D} (hz : SqL K W.Z a vs) (i : IsVs K mg W vs ds) : JRel K mg (Itl K a) W ds := fun W1 S1 H1 le s => by
  have hs : SqL K H1 a vs := SqL.mono K s.zh (SqL.mono K le.z hz)
  refine ⟨fun n d e => ?_, ⟨vs, hs, Nat.le_of_eq i.length⟩⟩
  obtain ⟨v, e1, e2⟩ := i.get e
  exact ⟨⟨vs, v, hs, e1⟩, fun x H2 ⟨h1, h2⟩ => by
    subst h1
    have := h2 vs hs
    rw [e1] at this; cases this
    exact ⟨W1, .refl _, .refl _ _, s, e2.mono le⟩⟩
theorem jr_tup {K : PySem.W.Frag} {mg : Str → Option Value} {W : Wd} {a : Addr} {vs : List V} {ds : List D} (hz : SqT K W.Z a vs) (i : IsVs K mg W vs ds) : JRel K mg (Itt K a) W ds := fun W1 S1 H1 le s => by
  have hs : SqT K H1 a vs := SqT.mono K s.zh (SqT.mono K le.z hz)
  refine ⟨fun n d e => ?_, ⟨vs, hs, Nat.le_of_eq i.length⟩⟩
  obtain ⟨v, e1, e2⟩ := i.get e
  exact ⟨⟨vs, v, hs, e1⟩, fun x H2 ⟨h1, h2⟩ => by
    subst h1
    have := h2 vs hs
    rw [e1] at this; cases this
    exact ⟨W1, .refl _, .refl _ _, s, e2.mono le⟩⟩
/-- a list or a tuple, walked -/
theorem pi_any {tl : TE} (hl : PE X e tl) : PI X tg e (fun σ H R => tl σ H fun x H1 => ∃ a, x = .ref a ∧ ((∃ xs, SqL X.K H1 a xs) ∧ R (Itl X.K a) H1 ∨ (∃ xs, SqT X.K H1 a xs) ∧ R (Itt X.K a) H1)) := by
  refine ⟨fun pins s σ H R I h => ?_⟩
  refine thn (hl.run pins s σ H _ I h) fun v s1 ⟨x, H1, I1, r1, q1⟩ => ?_
  obtain ⟨a, e, q⟩ := q1
  subst e
  cases r1
  rcases q with ⟨⟨xs, hq⟩, q⟩ | ⟨⟨xs, hq⟩, q⟩
  · obtain ⟨its, rv, p, hz⟩ := I1.list hq
    refine wpAny_pyIter_list p.isList ?_
    refine ⟨s1.heap.objs.size, [s1.heap.objs.size], _, _, H1, rfl, I1.kept (t' := s1.toks) fun b o e => Heap.get?_push_of_some _ e, turn_list a _, ⟨_, Heap.get?_push_size _ rfl, rfl, rfl⟩, fun b hb => ?_, q⟩
    have e : b = s1.heap.objs.size := by simpa using hb
    subst e
    exact I1.fpOk (Nat.le_refl _) (I1.hok.fresh (Nat.le_refl _))
  · obtain ⟨its, rv, p, hz⟩ := I1.tuple hq
    refine wpAny_pyIter_tuple (show s1.heap.IsTuple a its.toArray from p) ?_
    refine ⟨s1.heap.objs.size, [s1.heap.objs.size], _, _, H1, rfl, I1.kept (t' := s1.toks) fun b o e => Heap.get?_push_of_some _ e, turn_tuple a _, ⟨_, Heap.get?_push_size _ rfl, rfl, rfl⟩, fun b hb => ?_, q⟩
    have e : b = s1.heap.objs.size := by simpa using hb
    subst e
    exact I1.fpOk (Nat.le_refl _) (I1.hok.fresh (Nat.le_refl _))
def itD : D → M (List D)
  | .lst ds => ret ds
  | .tup ds => ret ds
  | .scr ns => ret (ns.map .int)
  | _ => stuck
theorem di_seq (h : Dn X e me) : DnI X tg e (fun env => bnd (me env) itD) := ⟨PI.mono (pi_any h.pe) fun σ H R ⟨W, env, S, e, s, ds, S', h, g⟩ => by
  obtain ⟨x, S1, h1, h⟩ := bnd_some h
  refine ⟨W, env, S, e, s, x, S1, h1, fun W1 v1 H1 le1 f1 s1 i1 => ?_⟩
  cases x <;> simp only [itD, stuck, ret, reduceCtorEq, Option.some.injEq, Prod.mk.injEq] at h
  · obtain ⟨rfl, rfl⟩ := h
    cases i1 with
    | tup ha ia => exact ⟨_, rfl, .inr ⟨⟨_, TupX.up s1 ha⟩, g W1 _ H1 le1 f1 s1 (jr_tup ha.t ia)⟩⟩
  · obtain ⟨rfl, rfl⟩ := h
    cases i1 with
    | lst ha ia => exact ⟨_, rfl, .inl ⟨⟨_, SqL.of (s1.zh _ _ ha)⟩, g W1 _ H1 le1 f1 s1 (jr_list (.inl (.inl ha)) ia)⟩⟩
  · obtain ⟨rfl, rfl⟩ := h
    cases i1 with
    | scr ha => exact ⟨_, rfl, .inl ⟨⟨_, (ha.mono fun _ => s1.zh _ _).l⟩, g W1 _ H1 le1 f1 s1 (jr_list ha.l (IsVs.of_ints _))⟩⟩⟩
/-- lo, .. -/
def rgD (lo : Int) (n : Nat) : List D := (List.range n).map fun i => .int (lo + (i : Nat))
theorem rgD_at {lo : Int} {n i : Nat} {d : D} (h : (rgD lo n)[i]? = some d) : i < n ∧ d = .int (lo + (i : Nat)) := by
  unfold rgD at h
  rw [List.getElem?_map] at h
  by_cases q : i < n
  · rw [List.getElem?_range q] at h; cases h; exact ⟨q, rfl⟩
  · rw [List.getElem?_eq_none (by rw [List.length_range]; omega)] at h; cases h
theorem rgD_length {lo : Int} {n : Nat} : (rgD lo n).length = n := by unfold rgD; rw [List.length_map, List.length_range]
theorem jr_range {K : PySem.W.Frag} {mg : Str → Option Value} {W : Wd} (lo : Int) (n : Nat) : JRel K mg (Itr lo n) W (rgD lo n) := fun W1 S1 H1 le s => by
  refine ⟨fun i d e => ?_, by show n ≤ (rgD lo n).length; rw [rgD_length]; exact Nat.le_refl _⟩
  obtain ⟨h1, rfl⟩ := rgD_at e
  exact ⟨h1, fun x H2 ⟨h2, h3⟩ => by subst h2 h3; exact ⟨W1, .refl _, .refl _ _, s, .int _⟩⟩
def rg1D : List D → M (List D)
  | [.int j] => if -(2 ^ 62) ≤ j ∧ j < 2 ^ 62 then ret (rgD 0 j.toNat) else stuck
  | _ => stuck
def rg2D : List D → M (List D)
  | [.int i, .int j] => if -(2 ^ 62) ≤ i ∧ i < 2 ^ 62 ∧ -(2 ^ 62) ≤ j ∧ j < 2 ^ 62 then ret (rgD i (j - i).toNat) else stuck
  | _ => stuck
theorem di_range1 (ha : DnA X [e] m) (hm : X.mg "range" = none) (hg : Gl X "range" := by rfl) (hs : starEach [e] X.env = [(false, eval e X.env)] := by rfl) : DnI X tg (.Call (.Name "range" p) [e] [] pos) (fun env => bnd (m env) rg1D) :=
  ⟨PI.mono (pi_range1 hg hm ha.pa hs) fun σ H R ⟨W, env, S, e, s, ds, S', h, g⟩ => by
    obtain ⟨x, S1, h1, h⟩ := bnd_some h
    refine ⟨W, env, S, e, s, x, S1, h1, fun W1 v1 H1 le1 f1 s1 i1 => ?_⟩
    unfold rg1D at h
    split at h
    · split at h
      · rename_i hc
        cases h
        cases i1 with
        | cons a b => cases a; cases b; exact ⟨_, rfl, hc.1, hc.2, g W1 _ H1 le1 f1 s1 (jr_range _ _)⟩
      · cases h
    · cases h⟩
theorem di_range2 (ha : DnA X [e, e2] m) (hm : X.mg "range" = none) (hg : Gl X "range" := by rfl) (hs : starEach [e, e2] X.env = [(false, eval e X.env), (false, eval e2 X.env)] := by rfl) (hs2 : starEach [e2] X.env = [(false, eval e2 X.env)] := by rfl) :
    DnI X tg (.Call (.Name "range" p) [e, e2] [] pos) (fun env => bnd (m env) rg2D) :=
  ⟨PI.mono (pi_range2 hg hm ha.pa hs hs2) fun σ H R ⟨W, env, S, e, s, ds, S', h, g⟩ => by
    obtain ⟨x, S1, h1, h⟩ := bnd_some h
    refine ⟨W, env, S, e, s, x, S1, h1, fun W1 v1 H1 le1 f1 s1 i1 => ?_⟩
    unfold rg2D at h
    split at h
    · split at h
      · rename_i hc
        cases h
        cases i1 with
        | cons a b => cases b with
          | cons b c => cases a; cases b; cases c; exact ⟨_, _, rfl, hc, g W1 _ H1 le1 f1 s1 (jr_range _ _)⟩
      · cases h
    · cases h⟩
/-- zip of two lists, of two tuples -/
def zipD : List D → M (List D)
  | [.lst xs, .lst ys] => ret ((xs.zip ys).map fun p => .tpl [p.1, p.2])
  | [.tup xs, .tup ys] => ret ((xs.zip ys).map fun p => .tpl [p.1, p.2])
  | _ => stuck
theorem zip_tuple {xs ys : List D} {i : Nat} {d : D} (h : ((xs.zip ys).map fun p => D.tpl [p.1, p.2])[i]? = some d) : ∃ x y, xs[i]? = some x ∧ ys[i]? = some y ∧ d = .tpl [x, y] := by
  rw [List.getElem?_map] at h
  cases q : (xs.zip ys)[i]? with
  | none => rw [q] at h; cases h
  | some p =>
    rw [q] at h; cases h
    rw [List.getElem?_zip_eq_some] at q
    exact ⟨_, _, q.1, q.2, rfl⟩
theorem pair_new {K : PySem.W.Frag} {mg : Str → Option Value} {W : Wd} {S : List O} {H : Hp} {T : Addr} {x y : V} {d e : D} (s : StRel K mg W S H) (i1 : IsV K mg W x d) (i2 : IsV K mg W y e) (hT : H T = none) :
    ∃ W2, W.le W2 ∧ Frame W W2 H (upd H T (.tup [x, y])) ∧ StRel K mg W2 S (upd H T (.tup [x, y])) ∧ IsV K mg W2 (.ref T) (.tpl [d, e]) :=
  ⟨_, Wd.add_le s hT, Frame.add s hT, s.add hT, .tpl (SqT.of (K := K) (H := (W.add T (.tup [x, y])).Z) upd_same) (.cons (i1.mono (Wd.add_le s hT)) (.cons (i2.mono (Wd.add_le s hT)) .nil))⟩
theorem jr_zipL {K : PySem.W.Frag} {mg : Str → Option Value} {W : Wd} {a b : Addr} {vs ws : List V} {ds es : List D} (hz : SqL K W.Z a vs) (hz2 : SqL K W.Z b ws) (i : IsVs K mg W vs ds) (j : IsVs K mg W ws es) : JRel K mg (Itz K a b) W ((ds.zip es).map fun p => .tpl [p.1, p.2]) := fun W1 S1 H1 le s => by
  have hs : SqL K H1 a vs := SqL.mono K s.zh (SqL.mono K le.z hz)
  have hs2 : SqL K H1 b ws := SqL.mono K s.zh (SqL.mono K le.z hz2)
  refine ⟨fun n d e => ?_, ⟨vs, ws, hs, hs2, ?_⟩⟩
  · obtain ⟨x, y, h1, h2, rfl⟩ := zip_tuple e
    obtain ⟨v, e1, e2⟩ := i.get h1
    obtain ⟨u, e3, e4⟩ := j.get h2
    refine ⟨⟨vs, ws, v, u, hs, hs2, e1, e3⟩, fun x H2 ⟨T, x1, y1, ex, hT, eh, f1, f2⟩ => ?_⟩
    subst ex eh
    have f1 := f1 vs hs
    have f2 := f2 ws hs2
    rw [e1] at f1; rw [e3] at f2; cases f1; cases f2
    exact pair_new s (e2.mono le) (e4.mono le) hT
  · rw [List.length_map, List.length_zip, i.length, j.length]; omega
theorem jr_zipT {K : PySem.W.Frag} {mg : Str → Option Value} {W : Wd} {a b : Addr} {vs ws : List V} {ds es : List D} (hz : SqT K W.Z a vs) (hz2 : SqT K W.Z b ws) (i : IsVs K mg W vs ds) (j : IsVs K mg W ws es) : JRel K mg (RZ.ItzT K a b) W ((ds.zip es).map fun p => .tpl [p.1, p.2]) := fun W1 S1 H1 le s => by
  have hs : SqT K H1 a vs := SqT.mono K s.zh (SqT.mono K le.z hz)
  have hs2 : SqT K H1 b ws := SqT.mono K s.zh (SqT.mono K le.z hz2)
  refine ⟨fun n d e => ?_, ⟨vs, ws, hs, hs2, ?_⟩⟩
  · obtain ⟨x, y, h1, h2, rfl⟩ := zip_tuple e
    obtain ⟨v, e1, e2⟩ := i.get h1
    obtain ⟨u, e3, e4⟩ := j.get h2
    refine ⟨⟨vs, ws, v, u, hs, hs2, e1, e3⟩, fun x H2 ⟨T, x1, y1, ex, hT, eh, f1, f2⟩ => ?_⟩
    subst ex eh
    have f1 := f1 vs hs
    have f2 := f2 ws hs2
    rw [e1] at f1; rw [e3] at f2; cases f1; cases f2
    exact pair_new s (e2.mono le) (e4.mono le) hT
  · rw [List.length_map, List.length_zip, i.length, j.length]; omega
theorem di_zip {elts : List Expr} {kk : Nat} {tpos : Pos} (ha : DnA X [e, e2] m) (hm : X.mg "zip" = none) (hg : Gl X "zip" := by rfl) (hs : starEach [e, e2] X.env = (false, eval e X.env) :: starEach [e2] X.env := by rfl) (hpl : (backTo pos (starEach [e2] X.env)).any (·.1) = false := by rfl) :
    DnI X (.Tuple elts kk tpos) (.Call (.Name "zip" p) [e, e2] [] pos) (fun env => bnd (m env) zipD) :=
  ⟨PI.mono (RZ.pi_zipA hg hm ha.pa hs hpl) fun σ H R ⟨W, env, S, e, s, ds, S', h, g⟩ => by
    obtain ⟨x, S1, h1, h⟩ := bnd_some h
    refine ⟨W, env, S, e, s, x, S1, h1, fun W1 v1 H1 le1 f1 s1 i1 => ?_⟩
    unfold zipD at h
    split at h
    · cases h
      cases i1 with
      | cons a b => cases b with
        | cons b c => cases c; cases a with
          | lst ha ia => cases b with
            | lst hb ib => exact ⟨_, _, _, _, rfl, .inl ⟨SqL.of (s1.zh _ _ ha), SqL.of (s1.zh _ _ hb), g W1 _ H1 le1 f1 s1 (jr_zipL (.inl (.inl ha)) (.inl (.inl hb)) ia ib)⟩⟩
    · cases h
      cases i1 with
      | cons a b => cases b with
        | cons b c => cases c; cases a with
          | tup ha ia => cases b with
            | tup hb ib => exact ⟨_, _, _, _, rfl, .inr ⟨TupX.up s1 ha, TupX.up s1 hb, g W1 _ H1 le1 f1 s1 (jr_zipT ha.t hb.t ia ib)⟩⟩
    · cases h⟩
/-- list(range(..)), tuple(range(..)) -/
structure DnR (X : Cx) (e : Expr) (m : Env → M (Int × Int)) : Prop where
  pr : PRg X e (fun σ H Q => ∃ (W : Wd) (env : Env) (S : List O), ERel X.K X.mg W env σ ∧ StRel X.K X.mg W S H ∧ ∃ ab S', m env S = some (ab, S') ∧ ∀ W' H', W.le W' → Frame W W' H H' → StRel X.K X.mg W' S' H' → Q ab.1 ab.2 H')
theorem PRg.mono {e : Expr} {t t' : L2.St → Hp → (Int → Int → Hp → Prop) → Prop} (h : PRg X e t) (k : ∀ σ H Q, t' σ H Q → t σ H Q) : PRg X e t' := fun pins s σ H Q I q => h pins s σ H Q I (k σ H Q q)
def rgA1 : D → M (Int × Int)
  | .int n => ret (0, n)
  | _ => stuck
theorem dr_1 (ha : Dn X e me) (hm : X.mg "range" = none) (hg : Gl X "range" := by rfl) (na : starEach [e] X.env = (false, eval e X.env) :: starEach [] X.env := by rfl) : DnR X (.Call (.Name "range" p) [e] [] pos) (fun env => bnd (me env) rgA1) :=
  ⟨PRg.mono (prg_1 hg hm ha.pe na) fun σ H Q ⟨W, env, S, e, s, ab, S', h, g⟩ => by
    obtain ⟨x, S1, h1, h⟩ := bnd_some h
    refine ⟨W, env, S, e, s, x, S1, h1, fun W1 v1 H1 le1 f1 s1 i1 => ?_⟩
    cases x <;> simp only [rgA1, stuck, ret, reduceCtorEq, Option.some.injEq, Prod.mk.injEq] at h
    obtain ⟨rfl, rfl⟩ := h
    cases i1
    exact ⟨_, rfl, g W1 H1 le1 f1 s1⟩⟩
def rgA2 : D → D → M (Int × Int)
  | .int n, .int k => ret (n, k)
  | _, _ => stuck
theorem dr_2 {mb : Env → M D} (ha : Dn X e me) (hb : Dn X e2 mb) (hm : X.mg "range" = none) (hg : Gl X "range" := by rfl) (na : starEach [e, e2] X.env = (false, eval e X.env) :: starEach [e2] X.env := by rfl)
    (nb : starEach [e2] X.env = (false, eval e2 X.env) :: starEach [] X.env := by rfl) (hp : (backTo pos (starEach [e2] X.env)).any (·.1) = false := by rfl) : DnR X (.Call (.Name "range" p) [e, e2] [] pos) (fun env => bnd (me env) fun x => bnd (mb env) fun y => rgA2 x y) :=
  ⟨PRg.mono (prg_2 hg hm ha.pe hb.pe na nb hp) fun σ H Q ⟨W, env, S, e, s, ab, S', h, g⟩ => by
    obtain ⟨x, S1, h1, h⟩ := bnd_some h
    obtain ⟨y, S2, h2, h⟩ := bnd_some h
    refine ⟨W, env, S, e, s, x, S1, h1, fun W1 v1 H1 le1 f1 s1 i1 => ?_⟩
    refine ⟨W1, env, S1, e.mono le1, s1, y, S2, h2, fun W2 v2 H2 le2 f2 s2 i2 => ?_⟩
    cases x <;> cases y <;> simp only [rgA2, stuck, ret, reduceCtorEq, Option.some.injEq, Prod.mk.injEq] at h
    obtain ⟨rfl, rfl⟩ := h
    cases i1; cases i2
    exact ⟨_, _, rfl, rfl, g W2 H2 (le1.trans le2) (f1.trans s s1 le1 f2 le2) s2⟩⟩
theorem rgV_is {K : PySem.W.Frag} {mg : Str → Option Value} {W : Wd} (a b : Int) : IsVs K mg W (rgV a b) (rgD a (b - a).toNat) := by
  have e1 : rgV a b = (((List.range (b - a).toNat).map fun i => a + ((i : Nat) : Int))).map V.int := by unfold rgV; rw [List.map_map]; rfl
  have e2 : rgD a (b - a).toNat = (((List.range (b - a).toNat).map fun i => a + ((i : Nat) : Int))).map D.int := by unfold rgD; rw [List.map_map]; rfl
  rw [e1, e2]
  exact IsVs.of_ints _
instance (a b : Int) : Decidable (RgOk a b) := by unfold RgOk; infer_instance
def lrD (ab : Int × Int) : M D := if RgOk ab.1 ab.2 then ret (.lst (rgD ab.1 (ab.2 - ab.1).toNat)) else stuck
def trD (ab : Int × Int) : M D := if RgOk ab.1 ab.2 then ret (.tup (rgD ab.1 (ab.2 - ab.1).toNat)) else stuck
theorem dn_listRg {mr : Env → M (Int × Int)} (hc : X.calm = true) (h : DnR X e mr) (hm : X.mg "list" = none) (hg : Gl X "list" := by rfl) (na : starEach [e] X.env = (false, eval e X.env) :: starEach [] X.env := by rfl) : Dn X (.Call (.Name "list" p) [e] [] pos) (fun env => bnd (mr env) lrD) :=
  ⟨PE.mono (pe_listRg hc hg hm h.pr na) fun σ H Q ⟨W, env, S, e, s, d, S', h, g⟩ => by
    obtain ⟨ab, S1, h1, h⟩ := bnd_some h
    refine ⟨W, env, S, e, s, ab, S1, h1, fun W1 H1 le1 f1 s1 => ?_⟩
    unfold lrD at h
    split at h
    · rename_i hok
      cases h
      exact ⟨hok, fun q hq => (g.step s le1 f1 s1).lst s1 (rgV_is _ _) hq⟩
    · cases h⟩
theorem dn_tupRg {mr : Env → M (Int × Int)} (hc : X.calm = true) (h : DnR X e mr) (hm : X.mg "tuple" = none) (hg : Gl X "tuple" := by rfl) (na : starEach [e] X.env = (false, eval e X.env) :: starEach [] X.env := by rfl) : Dn X (.Call (.Name "tuple" p) [e] [] pos) (fun env => bnd (mr env) trD) :=
  ⟨PE.mono (xe_tupRg hc hg hm h.pr na) fun σ H Q ⟨W, env, S, e, s, d, S', h, g⟩ => by
    obtain ⟨ab, S1, h1, h⟩ := bnd_some h
    refine ⟨W, env, S, e, s, ab, S1, h1, fun W1 H1 le1 f1 s1 => ?_⟩
    unfold trD at h
    split at h
    · rename_i hok
      cases h
      exact ⟨hok, (g.step s le1 f1 s1).tup s1 (rgV_is _ _)⟩
    · cases h⟩
end

/-! ### targets -/
abbrev SetF := D → Env → Option Env
structure GS (K : PySem.W.Frag) (mg : Str → Option Value) (g : TG) (vs : List Nat) (set : SetF) : Prop where
  run : ∀ (W : Wd) (S : List O) (H : Hp) (env env' : Env) (σ : L2.St) (v : V) (d : D) (Q : L2.St → Hp → Prop), StRel K mg W S H → ERel K mg W env σ → IsV K mg W v d → set d env = some env' → (∀ σ', ERel K mg W env' σ' → wipe σ' vs = wipe σ vs → Q σ' H) → g v σ H Q
def setN (i : Nat) : SetF := fun d env => if i < env.length then some (env.set i (some d)) else none
theorem ERel.set {K : PySem.W.Frag} {mg : Str → Option Value} {W : Wd} {env : Env} {σ : L2.St} {i : Nat} {v : V} {d : D} (e : ERel K mg W env σ) (h : IsV K mg W v d) : ERel K mg W (env.set i (some d)) (σ.set i (some v)) := by
  refine ⟨by rw [List.length_set, List.length_set]; exact e.1, fun j d' q => ?_⟩
  by_cases hj : i = j
  · subst hj
    by_cases hl : i < env.length
    · rw [List.getElem?_set_self hl] at q; cases q
      exact ⟨v, List.getElem?_set_self (by rw [← e.1]; exact hl), h⟩
    · rw [List.getElem?_eq_none (by rw [List.length_set]; omega)] at q; cases q
  · rw [List.getElem?_set_ne hj] at q ⊢; exact e.2 j d' q
theorem wipe_set {σ : L2.St} {i : Nat} {v : Option V} : ∀ {vs : List Nat}, i ∈ vs → wipe (σ.set i v) vs = wipe σ vs
  | w :: vs, h => by
    unfold wipe
    by_cases hi : i ∈ vs
    · rw [wipe_set hi]
    · have e : i = w := by rcases List.mem_cons.mp h with h | h; exact h; exact absurd h hi
      subst e
      rw [wipe_setout hi, List.set_set]
  where wipe_setout {σ : L2.St} {i : Nat} {v : Option V} : ∀ {vs : List Nat}, i ∉ vs → wipe (σ.set i v) vs = (wipe σ vs).set i v
    | [], _ => rfl
    | w :: vs, h => by
      unfold wipe
      rw [List.mem_cons, not_or] at h
      rw [wipe_setout h.2, List.set_comm _ _ h.1]
theorem gs_name {K : PySem.W.Frag} {mg : Str → Option Value} {i : Nat} {vs : List Nat} (hi : i ∈ vs) : GS K mg (gName i) vs (setN i) := ⟨fun W S H env env' σ v d Q s e h q k => by
  unfold setN at q
  split at q
  · cases q; exact k _ (e.set h) (wipe_set hi)
  · cases q⟩
/-- a tuple of names -/
def gNs (is : List Nat) : TGs := is.foldr (fun i t => gCons (gName i) t) gNil
def setAll : List Nat → List D → Env → Option Env
  | [], [], env => some env
  | i :: is, d :: ds, env => (setN i d env).bind (setAll is ds)
  | _, _, _ => none
def setT (is : List Nat) : SetF := fun d env => match d with
  | .tup ds => setAll is ds env
  | .tpl ds => setAll is ds env
  | _ => none
theorem setAll_len : ∀ {is : List Nat} {ds : List D} {env env' : Env}, setAll is ds env = some env' → ds.length = is.length
  | [], [], _, _, _ => rfl
  | i :: is, d :: ds, env, env', h => by
    simp only [setAll] at h
    cases q : setN i d env with
    | none => rw [q] at h; cases h
    | some e1 => rw [q] at h; exact congrArg (· + 1) (setAll_len h)
theorem gs_all {K : PySem.W.Frag} {mg : Str → Option Value} {vs : List Nat} {W : Wd} {H : Hp} {Q : L2.St → Hp → Prop} : ∀ {is : List Nat} (hi : ∀ i ∈ is, i ∈ vs) {xs : List V} {ds : List D} {env env' : Env} {σ : L2.St}, ERel K mg W env σ → IsVs K mg W xs ds → setAll is ds env = some env' → (∀ σ', ERel K mg W env' σ' → wipe σ' vs = wipe σ vs → Q σ' H) → gNs is xs σ H Q
  | [], _, _, _, _, _, _, e, .nil, q, k => by cases q; exact ⟨rfl, k _ e rfl⟩
  | i :: is, hi, _, d :: ds, env, env', σ, e, .cons a b, q, k => by
    simp only [setAll] at q
    cases c : setN i d env with
    | none => rw [c] at q; cases q
    | some e1 =>
      rw [c] at q
      have h1 := hi i List.mem_cons_self
      unfold setN at c
      split at c
      · cases c
        refine ⟨_, _, rfl, gs_all (fun j hj => hi j (List.mem_cons_of_mem _ hj)) (e.set a) b q fun σ' e' hw => k σ' e' (hw.trans (wipe_set h1))⟩
      · cases c
theorem gs_tup {K : PySem.W.Frag} {mg : Str → Option Value} {is vs : List Nat} (hi : ∀ i ∈ is, i ∈ vs) : GS K mg (gTup K is.length (gNs is)) vs (setT is) := ⟨fun W S H env env' σ v d Q s e h q k => by
  cases h <;> simp only [setT, reduceCtorEq] at q
  · rename_i ha ia
    exact ⟨_, _, rfl, TupX.up s ha, by rw [ia.length]; exact setAll_len q, gs_all hi e ia q k⟩
  · rename_i ha ia
    exact ⟨_, _, rfl, SqT.up s ha, by rw [ia.length]; exact setAll_len q, gs_all hi e ia q k⟩⟩

/-! ### comprehensions -/
structure DnTs (X : Cx) (es : List Expr) (m : Env → M Bool) : Prop where
  pt : PTs X es (tT X.K X.mg m)
theorem PTs.mono {X : Cx} {e : List Expr} {t t' : TT} (h : PTs X e t) (k : ∀ σ H Q, t' σ H Q → t σ H Q) : PTs X e t' := ⟨fun pins s σ H Q I q => h.run pins s σ H Q I (k σ H Q q)⟩
theorem dts_nil {X : Cx} : DnTs X [] (fun _ => ret true) := ⟨PTs.mono pts_nil fun σ H Q ⟨W, env, S, e, s, d, S', h, g⟩ => by cases h; exact g W H (.refl _) (.refl _ _) s⟩
theorem dts_one {X : Cx} {c : Expr} {m : Env → M Bool} (h : DnT X c m) : DnTs X [c] m := ⟨pts_one h.pt⟩
def lcLoop (set : SetF) (mt : Env → M Bool) (me : Env → M D) (w : Env) : List D → M (List D)
  | [] => ret []
  | d :: r => match set d w with
    | none => stuck
    | some e => bnd (mt e) fun b => if b = true then bnd (me e) fun y => bnd (lcLoop set mt me w r) fun ys => ret (y :: ys) else lcLoop set mt me w r
def wipeE (env : Env) : List Nat → Env
  | [] => env
  | v :: vs => (wipeE env vs).set v none
def lcM (vs : List Nat) (mi : Env → M (List D)) (set : SetF) (mt : Env → M Bool) (me : Env → M D) : Env → M (List D) := fun env => bnd (mi env) fun ds => if ds.length < sizeLine then lcLoop set mt me (wipeE env vs) ds else stuck
theorem ERel.wipe {K : PySem.W.Frag} {mg : Str → Option Value} {W : Wd} {env : Env} {σ : L2.St} (e : ERel K mg W env σ) : ∀ vs : List Nat, ERel K mg W (wipeE env vs) (L2.wipe σ vs)
  | [] => e
  | v :: vs => by
    have ih := e.wipe vs
    unfold wipeE L2.wipe
    refine ⟨by rw [List.length_set, List.length_set]; exact ih.1, fun j d' q => ?_⟩
    by_cases hj : v = j
    · subst hj
      by_cases hl : v < (wipeE env vs).length
      · rw [List.getElem?_set_self hl] at q; cases q
      · rw [List.getElem?_eq_none (by rw [List.length_set]; omega)] at q; cases q
    · rw [List.getElem?_set_ne hj] at q ⊢; exact ih.2 j d' q
section
variable {X : Cx} {vs : List Nat} {mi : Env → M (List D)} {set : SetF} {mt : Env → M Bool} {me : Env → M D} {g : TG}
theorem wipe_wipe {σ : L2.St} : ∀ vs : List Nat, L2.wipe (L2.wipe σ vs) vs = L2.wipe σ vs
  | [] => rfl
  | v :: vs => by
    show (L2.wipe ((L2.wipe σ vs).set v none) vs).set v none = (L2.wipe σ vs).set v none
    by_cases h : v ∈ vs
    · rw [wipe_set h, wipe_wipe vs]
    · rw [wipe_set.wipe_setout h, wipe_wipe vs, List.set_set]
theorem lc_run {K : PySem.W.Frag} {mg : Str → Option Value} {σ : L2.St} {H : Hp} {Q : VK} (hg : GS K mg g vs set) (h : tL K mg (lcM vs mi set mt me) σ H Q) : tLc (tI K mg mi) g (tT K mg mt) (tE K mg me) vs σ H Q := by
  obtain ⟨W, env, S, e, s, tot, S', h, go⟩ := h
  obtain ⟨ds, S1, h1, h⟩ := bnd_some h
  split at h
  · rename_i hz
    refine ⟨W, env, S, e, s, ds, S1, h1, fun W1 J H1 le1 f1 s1 jr => ?_⟩
    intro D hD
    refine ⟨fun i m H2 => i + m = ds.length ∧ ∃ W2 S2 acc accd rest, W1.le W2 ∧ Frame W1 W2 H1 H2 ∧ StRel K mg W2 S2 H2 ∧ H2 D = some (.lst acc) ∧ IsVs K mg W2 acc accd ∧ W2.Z D = none ∧ (∀ l, l < W2.n → W2.r l ≠ D) ∧
      lcLoop set mt me (wipeE env vs) (ds.drop i) S2 = some (rest, S') ∧ accd ++ rest = tot ∧ accd.length ≤ i, ⟨ds.length, by omega, W1, S1, [], [], tot, .refl _, ?_, ?_, upd_same, .nil, ?_, fun l hl => s1.ne hD hl, by rw [List.drop_zero]; exact h, rfl, Nat.le_refl _⟩, fun i m H2 hW => ?_⟩
    · exact ⟨fun a o e _ => by rw [upd_ne (ne_of_none e hD)]; exact e, fun l h k => absurd (Nat.lt_of_lt_of_le k h) (Nat.lt_irrefl _), fun a o e => .inl e⟩
    · refine ⟨s1.len, fun a o e => by rw [upd_ne (ne_of_none (s1.zh _ _ e) hD)]; exact s1.zh _ _ e, s1.zr, s1.inj, fun l o e => ?_⟩
      have hl : l < W1.n := by rw [s1.len]; exact (List.getElem?_eq_some_iff.mp e).1
      exact (s1.ob l o e).mono (.refl _) (by rw [upd_ne (s1.ne hD hl)])
    · cases q : W1.Z D with
      | none => rfl
      | some u => rw [s1.zh _ _ q] at hD; cases hD
    · obtain ⟨him, W2, S2, acc, accd, rest, le2, f2, s2, hDl, ia, zD, rD, hl, htot, hlen⟩ := hW
      have jr2 := jr W2 S2 H2 le2 s2
      by_cases hi : i < ds.length
      · refine .inr ?_
        have hd : ds[i]? = some ds[i] := List.getElem?_eq_getElem hi
        obtain ⟨jgo, jy⟩ := jr2.1 i _ hd
        rw [List.drop_eq_getElem_cons hi] at hl
        simp only [lcLoop] at hl
        cases hset : set ds[i] (wipeE env vs) with
        | none => rw [hset] at hl; cases hl
        | some env2 =>
          rw [hset] at hl
          obtain ⟨b, S3, ht, hl⟩ := bnd_some hl
          refine ⟨jgo, fun H' => i + 1 + (m - 1) = ds.length ∧ ∃ W2 S2 acc accd rest, W1.le W2 ∧ Frame W1 W2 H1 H' ∧ StRel K mg W2 S2 H' ∧ H' D = some (.lst acc) ∧ IsVs K mg W2 acc accd ∧ W2.Z D = none ∧ (∀ l, l < W2.n → W2.r l ≠ D) ∧
            lcLoop set mt me (wipeE env vs) (ds.drop (i + 1)) S2 = some (rest, S') ∧ accd ++ rest = tot ∧ accd.length ≤ i + 1, fun H' hN => ⟨m - 1, by omega, hN⟩, fun x H3 hy => ?_⟩
          obtain ⟨W3, le3, f3, s3, ix⟩ := jy x H3 hy
          have keep : ∀ {Wa Wb : Wd} {Sb : List O} {Ha Hb : Hp}, Ha D = some (.lst acc) → Wa.Z D = none → (∀ l, l < Wa.n → Wa.r l ≠ D) → Wa.le Wb → Frame Wa Wb Ha Hb → StRel K mg Wb Sb Hb → Hb D = some (.lst acc) ∧ Wb.Z D = none ∧ (∀ l, l < Wb.n → Wb.r l ≠ D) := fun {Wa Wb Sb Ha Hb} k1 k2 k3 kl kf ks => by
            refine ⟨kf.kp _ _ k1 k3, ?_, fun l hl q => ?_⟩
            · cases q : Wb.Z D with
              | none => rfl
              | some u =>
                rcases kf.fz _ _ q with z | z
                · rw [k2] at z; cases z
                · rw [k1] at z; cases z
            · by_cases hn : l < Wa.n
              · exact k3 l hn (by rw [← kl.r l hn]; exact q)
              · have := kf.fr l (Nat.le_of_not_lt hn) hl
                rw [q, k1] at this; cases this
          obtain ⟨a3, b3, c3⟩ := keep hDl zD rD le3 f3 s3
          have e3 : ERel K mg W3 env σ := ((e.mono le1).mono le2).mono le3
          refine hg.run W3 S2 H3 (wipeE env vs) env2 (L2.wipe σ vs) x ds[i] _ s3 (e3.wipe vs) ix hset fun σ2 er hw => ⟨by rw [hw, wipe_wipe], ?_⟩
          refine ⟨W3, env2, S2, er, s3, b, S3, ht, fun W4 H4 le4 f4 s4 => ?_⟩
          obtain ⟨a4, b4, c4⟩ := keep a3 b3 c3 le4 f4 s4
          have fr4 : Frame W1 W4 H1 H4 := (f2.trans s1 s2 le2 f3 le3).trans s1 s3 (le2.trans le3) f4 le4
          have le14 : W1.le W4 := (le2.trans le3).trans le4
          show if b = true then _ else _
          cases b with
          | false =>
            rw [if_neg Bool.false_ne_true] at hl ⊢
            exact ⟨by omega, W4, S3, acc, accd, rest, le14, fr4, s4, a4, ia.mono (le3.trans le4), b4, c4, hl, htot, by omega⟩
          | true =>
            rw [if_pos rfl] at hl ⊢
            obtain ⟨y, S4, hy2, hl⟩ := bnd_some hl
            obtain ⟨ys, S5, hl, hr⟩ := bnd_some hl
            cases hr
            refine ⟨W4, env2, S3, er.mono le4, s4, y, S4, hy2, fun W5 v5 H5 le5 f5 s5 i5 => ?_⟩
            obtain ⟨a5, b5, c5⟩ := keep a4 b4 c4 le5 f5 s5
            have hll : acc.length = accd.length := ia.length
            refine ⟨acc, a5, by omega, by omega, W5, S4, acc ++ [v5], accd ++ [y], ys, le14.trans le5, ?_, ?_, upd_same, (ia.mono ((le3.trans le4).trans le5)).append (.cons i5 .nil), b5, c5, hl, by rw [List.append_assoc]; exact htot, by rw [List.length_append]; simp; omega⟩
            · have fr5 := fr4.trans s1 s4 le14 f5 le5
              exact ⟨fun a o e hr => by rw [upd_ne (ne_of_none e hD)]; exact fr5.kp a o e hr, fr5.fr, fr5.fz⟩
            · refine ⟨s5.len, fun a o e => ?_, s5.zr, s5.inj, fun l o e => ?_⟩
              · rw [upd_ne (fun q => by rw [q, b5] at e; cases e)]; exact s5.zh _ _ e
              · have hl : l < W5.n := by rw [s5.len]; exact (List.getElem?_eq_some_iff.mp e).1
                exact (s5.ob l o e).mono (.refl _) (by rw [upd_ne (c5 l hl)])
      · refine .inl ?_
        have hi2 : i = ds.length := by omega
        subst hi2
        rw [List.drop_length] at hl
        cases hl
        refine ⟨jr2.2, go W2 D acc H2 (le1.trans le2) (f1.trans s s1 le1 f2 le2) s2 hDl ?_ zD rD (f1.tr le1 s1 hD)⟩
        rw [← htot, List.append_nil]; exact ia
  · cases h
theorem dl_comp {elt tg iter : Expr} {ifs : List Expr} {scope : Scope} {own : List (Str × Nat)} {pos : Pos} (hc : X.calm = true) (hN : X.N.Nodup) (hi : DnI X tg iter mi) (ok : BlkOk X.N X.env.scope scope own) (hs : GS X.K X.mg g (own.map (·.2)) set)
    (hg : ∀ (s : Shared) (H : Hp) (C : Addr) (cl : List (Str × Addr)) (fp : List Addr), PG (X.blk s H scope (compEnvC scope cl C X.env) fp) tg g) (ht : ∀ (s : Shared) (H : Hp) (C : Addr) (cl : List (Str × Addr)) (fp : List Addr), DnTs (X.blk s H scope (compEnvC scope cl C X.env) fp) ifs mt)
    (he : ∀ (s : Shared) (H : Hp) (C : Addr) (cl : List (Str × Addr)) (fp : List Addr), Dn (X.blk s H scope (compEnvC scope cl C X.env) fp) elt me) (hf : ∀ x, foldedSetIterable iter X.env x = pure x := by intro _; rfl) :
    DnL X (.ListComp elt [⟨tg, iter, ifs, 0⟩] scope pos) (lcM (own.map (·.2)) mi set mt me) :=
  ⟨PE.mono (pe_lc hc hN hi.pi ok hg (fun s H C cl fp => (ht s H C cl fp).pt) (fun s H C cl fp => (he s H C cl fp).pe) hf) fun _ _ _ h => lc_run hs h⟩
end
end Pm

set_option Elab.async false
set_option linter.all false
set_option maxRecDepth 100000
set_option maxHeartbeats 600000
/-! Pm7: statements. A slot holds a value, or a list (a dict) that nothing else knows. -/
namespace Pm
open PySem PySem.Spec PyProof.Rows L2

inductive Slot where
  | val (d : D) | own (ds : List D) | ownd (ks : List Key) (ds : List D)
abbrev SEnv := List (Option Slot)
inductive Flo where
  | nx (e : SEnv) | rt (d : D) | bk (e : SEnv) | ct (e : SEnv)
def Slot.isOwn : Slot → Bool
  | .val _ => false
  | _ => true
def Slot.toD : Slot → D
  | .val d => d
  | .own ds => .lst ds
  | .ownd ks ds => .dct ks ds
def Slot.strict : Slot → Option D
  | .val d => some d
  | _ => none
def bor (env : SEnv) : Env := env.map (Option.map Slot.toD)
def str (env : SEnv) : Env := env.map fun o => o.bind Slot.strict

section
variable (K : PySem.W.Frag) (mg : Str → Option Value)
def SlotR (W : Wd) (H : Hp) (v : V) : Slot → Prop
  | .val d => IsV K mg W v d
  | .own ds => ∃ a vs, v = .ref a ∧ H a = some (.lst vs) ∧ IsVs K mg W vs ds ∧ W.Z a = none ∧ ∀ l, l < W.n → W.r l ≠ a
  | .ownd ks ds => ∃ a kvs, v = .ref a ∧ H a = some (.dK kvs) ∧ ks = kvs.map (·.1) ∧ IsVs K mg W (kvs.map (·.2)) ds ∧ W.Z a = none ∧ ∀ l, l < W.n → W.r l ≠ a
structure SRel (W : Wd) (env : SEnv) (σ : L2.St) (H : Hp) : Prop where
  len : env.length = σ.length
  ats : ∀ (i : Nat) (s : Slot), env[i]? = some (some s) → ∃ v, σ[i]? = some (some v) ∧ SlotR K mg W H v s
  dj : ∀ (i j : Nat) (s t : Slot) (a : Addr), i ≠ j → env[i]? = some (some s) → s.isOwn = true → env[j]? = some (some t) → t.isOwn = true → σ[i]? = some (some (.ref a)) → σ[j]? ≠ some (some (.ref a))
end
def Ow (env : SEnv) (σ : L2.St) (a : Addr) : Prop := ∃ (i : Nat) (s : Slot), env[i]? = some (some s) ∧ s.isOwn = true ∧ σ[i]? = some (some (.ref a))
noncomputable instance (env : SEnv) (σ : L2.St) (a : Addr) : Decidable (Ow env σ a) := Classical.propDecidable _
structure FrameS (A B : Addr → Prop) (W W' : Wd) (H H' : Hp) : Prop where
  kp : ∀ a o, H a = some o → (∀ l, l < W.n → W.r l ≠ a) → ¬ A a → H' a = some o
  fr : ∀ l, W.n ≤ l → l < W'.n → H (W'.r l) = none
  fz : ∀ a o, W'.Z a = some o → W.Z a = some o ∨ H a = none ∨ A a
  fo : ∀ a, B a → A a ∨ H a = none
  tr : ∀ a, H' a = none → H a = none
theorem FrameS.trans {A B C : Addr → Prop} {W W1 W2 : Wd} {H H1 H2 : Hp} (a : FrameS A B W W1 H H1) (la : W.le W1) (b : FrameS B C W1 W2 H1 H2) (lb : W1.le W2) : FrameS A C W W2 H H2 := by
  refine ⟨fun c o e hc hA => ?_, fun l h1 h2 => ?_, fun c o e => ?_, fun c h => ?_, fun c h => a.tr c (b.tr c h)⟩
  · refine b.kp c o (a.kp c o e hc hA) (fun l hl q => ?_) fun hB => ?_
    · by_cases hn : l < W.n
      · exact hc l hn (by rw [← la.r l hn]; exact q)
      · have := a.fr l (Nat.le_of_not_lt hn) hl
        rw [q, e] at this; cases this
    · rcases a.fo c hB with z | z
      · exact hA z
      · rw [e] at z; cases z
  · by_cases hn : l < W1.n
    · rw [lb.r l hn]; exact a.fr l h1 hn
    · exact a.tr _ (b.fr l (Nat.le_of_not_lt hn) h2)
  · rcases b.fz c o e with e1 | e1 | e1
    · exact a.fz c o e1
    · exact .inr (.inl (a.tr _ e1))
    · rcases a.fo c e1 with z | z
      · exact .inr (.inr z)
      · exact .inr (.inl z)
  · rcases b.fo c h with z | z
    · exact a.fo c z
    · exact .inr (a.tr _ z)
theorem FrameS.of {A B : Addr → Prop} {W W' : Wd} {S' : List O} {H H' : Hp} {K : PySem.W.Frag} {mg : Str → Option Value} (f : Frame W W' H H') (le : W.le W') (s' : StRel K mg W' S' H') (h : ∀ a, B a → A a) : FrameS A B W W' H H' :=
  ⟨fun a o e hr _ => f.kp a o e hr, f.fr, fun a o e => (f.fz a o e).imp id .inl, fun a hb => .inl (h a hb), fun a e => f.tr le s' e⟩
/-- a def's frame: nothing is owned ahead, nothing behind -/
theorem FrameS.frame {B : Addr → Prop} {W W' : Wd} {H H' : Hp} (f : FrameS (fun _ => False) B W W' H H') : Frame W W' H H' :=
  ⟨fun a o e hr => f.kp a o e hr (fun z => z), f.fr, fun a o e => (f.fz a o e).imp id fun z => z.elim id False.elim⟩

/-! ### own ones lent, taken back -/
section
variable {K : PySem.W.Frag} {mg : Str → Option Value} {W : Wd} {env : SEnv} {σ : L2.St} {H H' : Hp} {S S' : List O}
theorem SRel.ow (r : SRel K mg W env σ H) {a : Addr} (h : Ow env σ a) : W.Z a = none ∧ (∀ l, l < W.n → W.r l ≠ a) ∧ ((∃ vs, H a = some (.lst vs)) ∨ ∃ kvs, H a = some (.dK kvs)) := by
  obtain ⟨i, s, h1, h2, h3⟩ := h
  obtain ⟨v, e1, e2⟩ := r.ats i s h1
  rw [h3] at e1; cases e1
  cases s with
  | val d => cases h2
  | own ds => obtain ⟨a', vs, q, h4, h5, h6, h7⟩ := e2; cases q; exact ⟨h6, h7, .inl ⟨vs, h4⟩⟩
  | ownd ks ds => obtain ⟨a', vs, q, h4, _, h5, h6, h7⟩ := e2; cases q; exact ⟨h6, h7, .inr ⟨vs, h4⟩⟩
theorem SRel.strict (r : SRel K mg W env σ H) : ERel K mg W (str env) σ := ⟨by unfold str; rw [List.length_map]; exact r.len, fun i d e => by
  unfold str at e
  rw [List.getElem?_map] at e
  cases q : env[i]? with
  | none => rw [q] at e; cases e
  | some o =>
    rw [q] at e
    cases o with
    | none => cases e
    | some s =>
      cases s with
      | val d' => cases e; exact r.ats i _ q
      | own ds => cases e
      | ownd ks ds => cases e⟩
/-- lent: all own ones read as values -/
noncomputable def lent (W : Wd) (env : SEnv) (σ : L2.St) (H : Hp) : Wd := { W with Z := fun a => if Ow env σ a then H a else W.Z a }
noncomputable def back (Wn : Wd) (env : SEnv) (σ : L2.St) : Wd := { Wn with Z := fun a => if Ow env σ a then none else Wn.Z a }
theorem lent_le (r : SRel K mg W env σ H) : W.le (lent W env σ H) := ⟨fun a o e => by
  show (if Ow env σ a then H a else W.Z a) = _
  rw [if_neg fun h => by rw [(r.ow h).1] at e; cases e]; exact e, Nat.le_refl _, fun _ _ => rfl⟩
theorem lent_st (r : SRel K mg W env σ H) (s : StRel K mg W S H) : StRel K mg (lent W env σ H) S H := by
  refine ⟨s.len, fun a o e => ?_, fun l hl => ?_, s.inj, fun l o e => (s.ob l o e).mono (lent_le r) rfl⟩
  · have e : (if Ow env σ a then H a else W.Z a) = some o := e
    split at e
    · exact e
    · exact s.zh a o e
  · show (if Ow env σ (W.r l) then H (W.r l) else W.Z (W.r l)) = none
    rw [if_neg fun h => (r.ow h).2.1 l hl rfl]; exact s.zr l hl
theorem lent_env (r : SRel K mg W env σ H) : ERel K mg (lent W env σ H) (bor env) σ := ⟨by unfold bor; rw [List.length_map]; exact r.len, fun i d e => by
  unfold bor at e
  rw [List.getElem?_map] at e
  cases q : env[i]? with
  | none => rw [q] at e; cases e
  | some o =>
    rw [q] at e
    cases o with
    | none => cases e
    | some s =>
      cases e
      obtain ⟨v, e1, e2⟩ := r.ats i _ q
      refine ⟨v, e1, ?_⟩
      cases s with
      | val d' => exact IsV.mono (lent_le r) e2
      | own ds =>
        obtain ⟨a, vs, rfl, h4, h5, h6, h7⟩ := e2
        refine .lst ?_ (h5.mono (lent_le r))
        show (if Ow env σ a then H a else W.Z a) = _
        rw [if_pos ⟨i, _, q, rfl, e1⟩]; exact h4
      | ownd ks ds =>
        obtain ⟨a, kvs, rfl, h4, hk, h5, h6, h7⟩ := e2
        refine .dct ?_ hk (h5.mono (lent_le r))
        show (if Ow env σ a then H a else W.Z a) = _
        rw [if_pos ⟨i, _, q, rfl, e1⟩]; exact h4⟩
/-- no list, no dict -/
def nl : HO → Bool
  | .lst _ => false
  | .dK _ => false
  | _ => true
mutual
theorem IsV.thaw {W W' : Wd} (hz : ∀ a o, W.Z a = some o → nl o = true → W'.Z a = some o) (hn : W'.n = W.n) (hr : ∀ l, W'.r l = W.r l) : ∀ {v : V} {d : D}, IsV K mg W v d → d.pure = true → IsV K mg W' v d
  | _, _, .non, _ => .non
  | _, _, .bl _, _ => .bl _
  | _, _, .int _, _ => .int _
  | _, _, .str _, _ => .str _
  | _, .tup _, .tup a b, h => by
    refine .tup ?_ (IsVs.thaw hz hn hr b h)
    rcases a with ⟨o, a, d⟩ | a
    · exact .inl ⟨o, hz _ _ a rfl, d⟩
    · exact .inr a
  | _, .tpl _, .tpl a b, h => by
    refine .tpl ?_ (IsVs.thaw hz hn hr b h)
    rcases a with (a | ⟨o, a⟩) | a
    · exact .inl (.inl (hz _ _ a rfl))
    · exact .inl (.inr ⟨o, hz _ _ a rfl⟩)
    · exact .inr a
  | _, .lst _, .lst a b, h => by simp [D.pure] at h
  | _, _, .scr a, _ => .scr (a.mono fun _ q => hz _ _ q rfl)
  | _, .dct _ _, .dct a e b, h => by simp [D.pure] at h
  | _, .obj _ _ _, .obj a c e b, h => .obj (hz _ _ a rfl) c e (IsVs.thaw hz hn hr b h)
  | _, .ref l, .ref q, h => by rw [← hr]; exact .ref (by rw [hn]; exact q)
  | _, .fn _ _ _ _ _, .fn e b, h => .fn (hz _ _ e rfl) (IsVs.thaw hz hn hr b h)
theorem IsVs.thaw {W W' : Wd} (hz : ∀ a o, W.Z a = some o → nl o = true → W'.Z a = some o) (hn : W'.n = W.n) (hr : ∀ l, W'.r l = W.r l) : ∀ {vs : List V} {ds : List D}, IsVs K mg W vs ds → D.pures ds = true → IsVs K mg W' vs ds
  | _, _, .nil, _ => .nil
  | _, _, .cons a b, h => by
    rw [D.pures, Bool.and_eq_true] at h
    exact .cons (IsV.thaw hz hn hr a h.1) (IsVs.thaw hz hn hr b h.2)
end
structure Back (K : PySem.W.Frag) (mg : Str → Option Value) (W Wn W' : Wd) (env : SEnv) (σ : L2.St) (H H' : Hp) (S' : List O) : Prop where
  le : W.le W'
  f : Frame W W' H H'
  s : StRel K mg W' S' H'
  r : SRel K mg W' env σ H'
  d : ∀ v d, IsV K mg Wn v d → d.pure = true → IsV K mg W' v d
  ds : ∀ v d, IsVs K mg Wn v d → D.pures d = true → IsVs K mg W' v d
  z : ∀ p, Wn.Z p = none → W'.Z p = none
  ns : Wn.n = W'.n ∧ ∀ l, W'.r l = Wn.r l
theorem SRel.step (r : SRel K mg W env σ H) {W' : Wd} (le : W.le W') (f : Frame W W' H H') : SRel K mg W' env σ H' := by
  refine ⟨r.len, fun i s e => ?_, r.dj⟩
  obtain ⟨v, e1, e2⟩ := r.ats i s e
  refine ⟨v, e1, ?_⟩
  have no : ∀ a u, H a = some u → W.Z a = none → (∀ l, l < W.n → W.r l ≠ a) → W'.Z a = none ∧ ∀ l, l < W'.n → W'.r l ≠ a := fun a u h1 h2 h3 => by
    refine ⟨?_, fun l hl q => ?_⟩
    · cases q : W'.Z a with
      | none => rfl
      | some o =>
        rcases f.fz a o q with z | z
        · rw [h2] at z; cases z
        · rw [h1] at z; cases z
    · by_cases hn : l < W.n
      · exact h3 l hn (by rw [← le.r l hn]; exact q)
      · have := f.fr l (Nat.le_of_not_lt hn) hl
        rw [q, h1] at this; cases this
  cases s with
  | val d => exact IsV.mono le e2
  | own ds =>
    obtain ⟨a, vs, rfl, h4, h5, h6, h7⟩ := e2
    obtain ⟨n1, n2⟩ := no a _ h4 h6 h7
    exact ⟨a, vs, rfl, f.kp a _ h4 h7, h5.mono le, n1, n2⟩
  | ownd ks ds =>
    obtain ⟨a, kvs, rfl, h4, hk, h5, h6, h7⟩ := e2
    obtain ⟨n1, n2⟩ := no a _ h4 h6 h7
    exact ⟨a, kvs, rfl, f.kp a _ h4 h7, hk, h5.mono le, n1, n2⟩
theorem thaw (r : SRel K mg W env σ H) (s : StRel K mg W S H) {Wn : Wd} (le : (lent W env σ H).le Wn) (f : Frame (lent W env σ H) Wn H H') (sn : StRel K mg Wn S' H') : Back K mg W Wn (back Wn env σ) env σ H H' S' := by
  have hz : ∀ a o, Wn.Z a = some o → nl o = true → (back Wn env σ).Z a = some o := fun a o e h => by
    show (if Ow env σ a then none else Wn.Z a) = _
    rw [if_neg fun hw => ?_]
    · exact e
    · obtain ⟨h1, h2, h3⟩ := r.ow hw
      have h4 : (lent W env σ H).Z a = H a := by show (if Ow env σ a then H a else W.Z a) = _; rw [if_pos hw]
      rcases h3 with ⟨vs, h3⟩ | ⟨vs, h3⟩
      · rw [h3] at h4
        have := le.z _ _ h4
        rw [e] at this; cases this; cases h
      · rw [h3] at h4
        have := le.z _ _ h4
        rw [e] at this; cases this; cases h
  have le1 : W.le (back Wn env σ) := ⟨fun a o e => by
    show (if Ow env σ a then none else Wn.Z a) = _
    rw [if_neg fun h => by rw [(r.ow h).1] at e; cases e]
    exact le.z _ _ ((lent_le r).z _ _ e), le.n, le.r⟩
  have f1 : Frame W (back Wn env σ) H H' := ⟨f.kp, f.fr, fun a o e => by
    have e : (if Ow env σ a then none else Wn.Z a) = some o := e
    split at e
    · cases e
    · rename_i hno
      rcases f.fz a o e with z | z
      · have z : (if Ow env σ a then H a else W.Z a) = some o := z
        rw [if_neg hno] at z; exact .inl z
      · exact .inr z⟩
  refine ⟨le1, f1, ⟨sn.len, fun a o e => ?_, fun l hl => ?_, sn.inj, fun l o e => ?_⟩, r.step le1 f1, fun v d i h => IsV.thaw hz rfl (fun _ => rfl) i h, fun v d i h => IsVs.thaw hz rfl (fun _ => rfl) i h, fun p h => ?_, rfl, fun _ => rfl⟩
  · have e : (if Ow env σ a then none else Wn.Z a) = some o := e
    split at e
    · cases e
    · exact sn.zh a o e
  · show (if Ow env σ (Wn.r l) then none else Wn.Z (Wn.r l)) = none
    split
    · rfl
    · exact sn.zr l hl
  · have h := sn.ob l o e
    cases o with
    | lst ds => obtain ⟨vs, h1, h2, h3⟩ := h; exact ⟨vs, h1, IsVs.thaw hz rfl (fun _ => rfl) h2 h3, h3⟩
    | ins c ns ds => obtain ⟨C, dx, fs, h1, h2, h3, h4, h5⟩ := h; exact ⟨C, dx, fs, h1, h2, h3, IsVs.thaw hz rfl (fun _ => rfl) h4 h5, h5⟩
    | dic ks ds => obtain ⟨kvs, h1, h2, h3, h4⟩ := h; exact ⟨kvs, h1, h2, IsVs.thaw hz rfl (fun _ => rfl) h3 h4, h4⟩
    | tic b => obtain ⟨xs, h1, h2, h3, h4, h5⟩ := h; exact ⟨xs, h1, h2, h3, h4.imp (P := fun _ => True) (fun v d i p _ => IsV.thaw hz rfl (fun _ => rfl) i p) fun _ _ => ⟨True.intro, True.intro⟩, h5⟩
    | tab x => exact ⟨h.1, h.2.mono (fun c e => hz _ _ e rfl) rfl⟩
  · show (if Ow env σ p then none else Wn.Z p) = none
    split
    · rfl
    · exact h
end

/-! ### readings of statements -/
abbrev MS := SEnv → M Flo
def Nx (K : PySem.W.Frag) (mg : Str → Option Value) (W : Wd) (env : SEnv) (σ : L2.St) (H : Hp) (S' : List O) (e : SEnv) (P : L2.St → Hp → Prop) : Prop :=
  ∀ W' σ' H', W.le W' → FrameS (Ow env σ) (Ow e σ') W W' H H' → SRel K mg W' e σ' H' → StRel K mg W' S' H' → P σ' H'
def Rt (K : PySem.W.Frag) (mg : Str → Option Value) (W : Wd) (env : SEnv) (σ : L2.St) (H : Hp) (S' : List O) (d : D) (Q : VK) : Prop :=
  ∀ W' v H', W.le W' → FrameS (Ow env σ) (fun _ => False) W W' H H' → StRel K mg W' S' H' → IsV K mg W' v d → Q v H'
def FloR (K : PySem.W.Frag) (mg : Str → Option Value) (W : Wd) (env : SEnv) (σ : L2.St) (H : Hp) (S' : List O) (D : Ends) : Flo → Prop
  | .nx e => Nx K mg W env σ H S' e D.nx
  | .rt d => Rt K mg W env σ H S' d D.rt
  | .bk e => Nx K mg W env σ H S' e D.bk
  | .ct e => Nx K mg W env σ H S' e D.ct
def tSt (K : PySem.W.Frag) (mg : Str → Option Value) (m : MS) : TS := fun D σ H =>
  ∃ (W : Wd) (env : SEnv) (S : List O), SRel K mg W env σ H ∧ StRel K mg W S H ∧ ∃ r S', m env S = some (r, S') ∧ FloR K mg W env σ H S' D r
structure Ds (X : Cx) (st : Stmt) (m : MS) : Prop where
  ps : PS X st (tSt X.K X.mg m)
structure Dss (X : Cx) (sts : List Stmt) (m : MS) : Prop where
  pss : PSs X sts (tSt X.K X.mg m)
theorem PS.mono {X : Cx} {e : Stmt} {t t' : TS} (h : PS X e t) (k : ∀ D σ H, t' D σ H → t D σ H) : PS X e t' := ⟨fun pins s σ H D I q => h.run pins s σ H D I (k D σ H q)⟩
theorem PSs.mono {X : Cx} {e : List Stmt} {t t' : TS} (h : PSs X e t) (k : ∀ D σ H, t' D σ H → t D σ H) : PSs X e t' := ⟨fun pins s σ H D I q => h.run pins s σ H D I (k D σ H q)⟩
section
variable {X : Cx} {K : PySem.W.Frag} {mg : Str → Option Value} {W : Wd} {env e : SEnv} {σ : L2.St} {H H1 : Hp} {S S1 S' : List O} {D : Ends}
theorem Nx.step {W1 : Wd} {e1 : SEnv} {σ1 : L2.St} {P : L2.St → Hp → Prop} (le1 : W.le W1) (f1 : FrameS (Ow env σ) (Ow e1 σ1) W W1 H H1) (g : Nx K mg W env σ H S' e P) : Nx K mg W1 e1 σ1 H1 S' e P :=
  fun W' σ' H' le f r s => g W' σ' H' (le1.trans le) (f1.trans le1 f le) r s
theorem Rt.step {W1 : Wd} {e1 : SEnv} {σ1 : L2.St} {d : Pm.D} {P : VK} (le1 : W.le W1) (f1 : FrameS (Ow env σ) (Ow e1 σ1) W W1 H H1) (g : Rt K mg W env σ H S' d P) : Rt K mg W1 e1 σ1 H1 S' d P :=
  fun W' v H' le f s i => g W' v H' (le1.trans le) (f1.trans le1 f le) s i
theorem FloR.step {W1 : Wd} {e1 : SEnv} {σ1 : L2.St} {r : Flo} (le1 : W.le W1) (f1 : FrameS (Ow env σ) (Ow e1 σ1) W W1 H H1) (g : FloR K mg W env σ H S' D r) : FloR K mg W1 e1 σ1 H1 S' D r := by
  cases r with
  | nx e => exact Nx.step le1 f1 g
  | rt d => exact Rt.step le1 f1 g
  | bk e => exact Nx.step le1 f1 g
  | ct e => exact Nx.step le1 f1 g
/-- blocks -/
def seqM (a b : MS) : MS := fun env => bnd (a env) fun r => match r with
  | .nx e => b e
  | r => ret r
theorem dss_nil : Dss X [] (fun env => ret (.nx env)) := ⟨PSs.mono pss_nil fun D σ H ⟨W, env, S, r, s, fl, S', h, g⟩ => by
  cases h
  exact g W σ H (.refl _) (.of (.refl _ _) (.refl _) s fun _ h => h) r s⟩
theorem dss_cons {st : Stmt} {rest : List Stmt} {a b : MS} (h1 : Ds X st a) (h2 : Dss X rest b) : Dss X (st :: rest) (seqM a b) := ⟨PSs.mono (pss_cons h1.ps h2.pss) fun D σ H ⟨W, env, S, r, s, fl, S', h, g⟩ => by
  obtain ⟨r1, S1, e1, h⟩ := bnd_some h
  refine ⟨W, env, S, r, s, r1, S1, e1, ?_⟩
  cases r1 with
  | nx e => exact fun W1 σ1 H1 le1 f1 rr ss => ⟨W1, e, S1, rr, ss, fl, S', h, g.step le1 f1⟩
  | rt d => cases h; exact g
  | bk e => cases h; exact g
  | ct e => cases h; exact g⟩
theorem dss_one {st : Stmt} {a : MS} (h1 : Ds X st a) : Dss X [st] a := ⟨pss_one h1.ps⟩
theorem ds_pass {pos : Pos} : Ds X (.Pass pos) (fun env => ret (.nx env)) := ⟨PS.mono ps_pass fun D σ H ⟨W, env, S, r, s, fl, S', h, g⟩ => by
  cases h
  exact g W σ H (.refl _) (.of (.refl _ _) (.refl _) s fun _ h => h) r s⟩
theorem ds_break {pos : Pos} : Ds X (.Break pos) (fun env => ret (.bk env)) := ⟨PS.mono ps_break fun D σ H ⟨W, env, S, r, s, fl, S', h, g⟩ => by
  cases h
  exact g W σ H (.refl _) (.of (.refl _ _) (.refl _) s fun _ h => h) r s⟩
theorem ds_continue {pos : Pos} : Ds X (.Continue pos) (fun env => ret (.ct env)) := ⟨PS.mono ps_continue fun D σ H ⟨W, env, S, r, s, fl, S', h, g⟩ => by
  cases h
  exact g W σ H (.refl _) (.of (.refl _ _) (.refl _) s fun _ h => h) r s⟩
/-- what is never reached -/
theorem ds_never {st : Stmt} : Ds X st (fun _ => stuck) := ⟨PS.mono ps_never fun D σ H ⟨W, env, S, r, s, fl, S', h, g⟩ => by cases h⟩
theorem dss_never {st : List Stmt} : Dss X st (fun _ => stuck) := ⟨PSs.mono pss_never fun D σ H ⟨W, env, S, r, s, fl, S', h, g⟩ => by cases h⟩
/-- return e -/
theorem ds_ret {e : Expr} {m : Env → M Pm.D} {pos : Pos} (he : Dn X e m) : Ds X (.Return (some e) pos) (fun env => bnd (m (bor env)) fun d => ret (.rt d)) := ⟨PS.mono (ps_ret he.pe) fun D σ H ⟨W, env, S, r, s, fl, S', h, g⟩ => by
  obtain ⟨d, S1, h1, h⟩ := bnd_some h
  cases h
  refine ⟨lent W env σ H, bor env, S, lent_env r, lent_st r s, d, S', h1, fun W1 v1 H1 le1 f1 s1 i1 => ?_⟩
  refine g W1 v1 H1 ((lent_le r).trans le1) ⟨fun a o e hr _ => f1.kp a o e hr, f1.fr, fun a o e => ?_, fun a h => h.elim, fun a e => f1.tr le1 s1 e⟩ s1 i1
  rcases f1.fz a o e with z | z
  · by_cases hw : Ow env σ a
    · exact .inr (.inr hw)
    · have z : (if Ow env σ a then H a else W.Z a) = some o := by simpa only [lent] using z
      rw [if_neg hw] at z; exact .inl z
  · exact .inr (.inl z)⟩
theorem ds_retN {pos : Pos} : Ds X (.Return none pos) (fun env => ret (.rt .non)) := ⟨PS.mono ps_retN fun D σ H ⟨W, env, S, r, s, fl, S', h, g⟩ => by
  cases h
  exact g W .non H (.refl _) ⟨fun a o e _ _ => e, fun l h k => absurd (Nat.lt_of_lt_of_le k h) (Nat.lt_irrefl _), fun a o e => .inl e, fun a h => h.elim, fun _ h => h⟩ s .non⟩
/-- a call for what it does -/
theorem ds_expr {e : Expr} {m : Env → M Pm.D} {pos : Pos} (he : Dn X e m) (hs : swapsWith e none pos.line X.env = pure false := by rfl) : Ds X (.Expr e pos) (fun env => bnd (m (bor env)) fun _ => ret (.nx env)) := ⟨PS.mono (ps_expr he.pe hs) fun D σ H ⟨W, env, S, r, s, fl, S', h, g⟩ => by
  obtain ⟨d, S1, h1, h⟩ := bnd_some h
  cases h
  refine ⟨lent W env σ H, bor env, S, lent_env r, lent_st r s, d, S', h1, fun W1 v1 H1 le1 f1 s1 i1 => ?_⟩
  have b := thaw r s le1 f1 s1
  exact g _ σ H1 b.le (.of b.f b.le b.s fun _ h => h) b.r b.s⟩
/-- if -/
def ifM (c : Env → M Bool) (a b : MS) : MS := fun env => bnd (c (bor env)) fun k => if k = true then a env else b env
theorem ds_if {c : Expr} {ta tb : List Stmt} {mc : Env → M Bool} {a b : MS} {pos : Pos} (hc : DnT X c mc) (ha : Dss X ta a) (hb : Dss X tb b) : Ds X (.If c ta tb pos) (ifM mc a b) := ⟨PS.mono (ps_if hc.pt ha.pss hb.pss) fun D σ H ⟨W, env, S, r, s, fl, S', h, g⟩ => by
  obtain ⟨k, S1, h1, h⟩ := bnd_some h
  refine ⟨lent W env σ H, bor env, S, lent_env r, lent_st r s, k, S1, h1, fun W1 H1 le1 f1 s1 => ?_⟩
  have b := thaw r s le1 f1 s1
  have g1 := g.step b.le (.of b.f b.le b.s fun _ h => h)
  show if k = true then _ else _
  cases k with
  | true => rw [if_pos rfl] at h ⊢; exact ⟨_, env, S1, b.r, b.s, fl, S', h, g1⟩
  | false => rw [if_neg Bool.false_ne_true] at h ⊢; exact ⟨_, env, S1, b.r, b.s, fl, S', h, g1⟩⟩
/-! ### stores -/
theorem SRel.setv {i : Nat} {v : V} {d : Pm.D} (r : SRel K mg W env σ H) (h : IsV K mg W v d) : SRel K mg W (env.set i (some (.val d))) (σ.set i (some v)) H := by
  refine ⟨by rw [List.length_set, List.length_set]; exact r.len, fun j s q => ?_, fun j k s t a hjk e1 o1 e2 o2 e3 => ?_⟩
  · by_cases hj : i = j
    · subst hj
      by_cases hl : i < env.length
      · rw [List.getElem?_set_self hl] at q; cases q
        exact ⟨v, List.getElem?_set_self (by rw [← r.len]; exact hl), h⟩
      · rw [List.getElem?_eq_none (by rw [List.length_set]; omega)] at q; cases q
    · rw [List.getElem?_set_ne hj] at q ⊢; exact r.ats j s q
  · have nv : ∀ j s, (env.set i (some (Slot.val d)))[j]? = some (some s) → s.isOwn = true → i ≠ j := fun j s q o z => by
      subst z
      by_cases hl : i < env.length
      · rw [List.getElem?_set_self hl] at q; cases q; cases o
      · rw [List.getElem?_eq_none (by rw [List.length_set]; omega)] at q; cases q
    have n1 := nv j s e1 o1
    have n2 := nv k t e2 o2
    rw [List.getElem?_set_ne n1] at e1 e3
    rw [List.getElem?_set_ne n2] at e2 ⊢
    exact r.dj j k s t a hjk e1 o1 e2 o2 e3
theorem Ow.setv {i : Nat} {v : V} {d : Pm.D} {a : Addr} (h : Ow (env.set i (some (.val d))) (σ.set i (some v)) a) : Ow env σ a := by
  obtain ⟨j, s, h1, h2, h3⟩ := h
  by_cases hj : i = j
  · subst hj
    by_cases hl : i < env.length
    · rw [List.getElem?_set_self hl] at h1; cases h1; cases h2
    · rw [List.getElem?_eq_none (by rw [List.length_set]; omega)] at h1; cases h1
  · rw [List.getElem?_set_ne hj] at h1 h3; exact ⟨j, s, h1, h2, h3⟩
/-- an expression's value, kept: a plain one, or one that has no own one in it -/
def evS (m : Env → M Pm.D) (env : SEnv) : M Pm.D := fun S => (bnd (m (bor env)) (fun d => if d.pure = true then ret d else stuck) S).or (m (str env) S)
theorem evS_run {m : Env → M Pm.D} {d : Pm.D} {Q : VK} (r : SRel K mg W env σ H) (s : StRel K mg W S H) (h : evS m env S = some (d, S'))
    (k : ∀ W1 v H1, W.le W1 → Frame W W1 H H1 → SRel K mg W1 env σ H1 → StRel K mg W1 S' H1 → IsV K mg W1 v d → Q v H1) : tE K mg m σ H Q := by
  unfold evS at h
  cases q : bnd (m (bor env)) (fun d => if d.pure = true then ret d else stuck) S with
  | some x =>
    rw [q] at h
    cases h
    obtain ⟨d1, S1, h1, h2⟩ := bnd_some q
    split at h2
    · rename_i hp
      cases h2
      refine ⟨lent W env σ H, bor env, S, lent_env r, lent_st r s, d, S', h1, fun W1 v1 H1 le1 f1 s1 i1 => ?_⟩
      have b := thaw r s le1 f1 s1
      exact k _ v1 H1 b.le b.f b.r b.s (b.d _ _ i1 hp)
    · cases h2
  | none =>
    rw [q] at h
    refine ⟨W, str env, S, r.strict, s, d, S', h, fun W1 v1 H1 le1 f1 s1 i1 => ?_⟩
    exact k W1 v1 H1 le1 f1 (r.step le1 f1) s1 i1
/-- .. of a fresh list -/
def evL (m : Env → M (List Pm.D)) (env : SEnv) : M (List Pm.D) := fun S => (bnd (m (bor env)) (fun d => if Pm.D.pures d = true then ret d else stuck) S).or (m (str env) S)
theorem evL_run {m : Env → M (List Pm.D)} {d : List Pm.D} {Q : VK} (r : SRel K mg W env σ H) (s : StRel K mg W S H) (h : evL m env S = some (d, S'))
    (k : ∀ W1 p vs H1, W.le W1 → Frame W W1 H H1 → SRel K mg W1 env σ H1 → StRel K mg W1 S' H1 → H1 p = some (.lst vs) → IsVs K mg W1 vs d → W1.Z p = none → (∀ l, l < W1.n → W1.r l ≠ p) → H p = none → Q (.ref p) H1) : tL K mg m σ H Q := by
  unfold evL at h
  cases q : bnd (m (bor env)) (fun d => if Pm.D.pures d = true then ret d else stuck) S with
  | some x =>
    rw [q] at h
    cases h
    obtain ⟨d1, S1, h1, h2⟩ := bnd_some q
    split at h2
    · rename_i hp
      cases h2
      refine ⟨lent W env σ H, bor env, S, lent_env r, lent_st r s, d, S', h1, fun W1 p vs H1 le1 f1 s1 e1 i1 z1 r1 n1 => ?_⟩
      have b := thaw r s le1 f1 s1
      exact k _ p vs H1 b.le b.f b.r b.s e1 (b.ds _ _ i1 hp) (b.z _ z1) (fun l hl => by rw [b.ns.2]; exact r1 l (by rw [b.ns.1]; exact hl)) n1
    · cases h2
  | none =>
    rw [q] at h
    refine ⟨W, str env, S, r.strict, s, d, S', h, fun W1 p vs H1 le1 f1 s1 e1 i1 z1 r1 n1 => ?_⟩
    exact k W1 p vs H1 le1 f1 (r.step le1 f1) s1 e1 i1 z1 r1 n1
end
end Pm

set_option Elab.async false
set_option linter.all false
set_option maxRecDepth 100000
set_option maxHeartbeats 600000
/-! Pm8: stores, loops, the body of a def. -/
namespace Pm
open PySem PySem.Spec PyProof.Rows L2

section
variable {X : Cx} {K : PySem.W.Frag} {mg : Str → Option Value} {W : Wd} {env e : SEnv} {σ : L2.St} {H H1 : Hp} {S S1 S' : List O} {D : Ends}
theorem SlotR.step {v : V} {s : Slot} (h : SlotR K mg W H v s) {W' : Wd} {H' : Hp} (le : W.le W') (f : Frame W W' H H') : SlotR K mg W' H' v s := by
  have r : SRel K mg W [some s] [some v] H := ⟨rfl, fun i t q => by
    cases i with
    | zero => cases q; exact ⟨v, rfl, h⟩
    | succ n => simp at q, fun i j s t a hij q1 _ q2 => by
      cases i with
      | zero => cases j with
        | zero => exact absurd rfl hij
        | succ n => simp at q2
      | succ n => simp at q1⟩
  obtain ⟨w, e1, e2⟩ := (r.step le f).ats 0 s rfl
  cases e1
  exact e2
theorem SRel.cons {v : V} {s : Slot} (r : SRel K mg W env σ H) (h : SlotR K mg W H v s) (n : ∀ a, s.isOwn = true → v = .ref a → ¬ Ow env σ a) : SRel K mg W (some s :: env) (some v :: σ) H := by
  refine ⟨congrArg (· + 1) r.len, fun i t q => ?_, fun i j t u a hij q1 o1 q2 o2 q3 q4 => ?_⟩
  · cases i with
    | zero => cases q; exact ⟨v, rfl, h⟩
    | succ i => exact r.ats i t q
  · cases i with
    | zero =>
      cases q1
      cases j with
      | zero => exact hij rfl
      | succ j => exact n a o1 (Option.some.inj (Option.some.inj q3)) ⟨j, u, q2, o2, q4⟩
    | succ i =>
      cases j with
      | zero => cases q2; exact n a o2 (Option.some.inj (Option.some.inj q4)) ⟨i, t, q1, o1, q3⟩
      | succ j => exact r.dj i j t u a (fun h => hij (congrArg _ h)) q1 o1 q2 o2 q3 q4
theorem SRel.sets {i : Nat} {v : V} {s : Slot} (r : SRel K mg W env σ H) (h : SlotR K mg W H v s) (n : ∀ a, s.isOwn = true → v = .ref a → ¬ Ow env σ a) : SRel K mg W (env.set i (some s)) (σ.set i (some v)) H := by
  have at1 : ∀ {j t}, (env.set i (some s))[j]? = some (some t) → (i = j ∧ t = s ∧ (σ.set i (some v))[j]? = some (some v)) ∨ (i ≠ j ∧ env[j]? = some (some t) ∧ (σ.set i (some v))[j]? = σ[j]?) := fun {j t} q => by
    by_cases hj : i = j
    · subst hj
      by_cases hl : i < env.length
      · rw [List.getElem?_set_self hl] at q; cases q
        exact .inl ⟨rfl, rfl, List.getElem?_set_self (by rw [← r.len]; exact hl)⟩
      · rw [List.getElem?_eq_none (by rw [List.length_set]; omega)] at q; cases q
    · rw [List.getElem?_set_ne hj] at q
      exact .inr ⟨hj, q, List.getElem?_set_ne hj⟩
  refine ⟨by rw [List.length_set, List.length_set]; exact r.len, fun j t q => ?_, fun j k t u a hjk q1 o1 q2 o2 q3 q4 => ?_⟩
  · rcases at1 q with ⟨_, rfl, z⟩ | ⟨_, z1, z2⟩
    · exact ⟨v, z, h⟩
    · rw [z2]; exact r.ats j t z1
  · rcases at1 q1 with ⟨e1, rfl, z⟩ | ⟨e1, z1, z2⟩ <;> rcases at1 q2 with ⟨e2, rfl, y⟩ | ⟨e2, y1, y2⟩
    · exact hjk (e1.symm.trans e2)
    · rw [z] at q3; rw [y2] at q4
      exact n a o1 (Option.some.inj (Option.some.inj q3)) ⟨k, u, y1, o2, q4⟩
    · rw [z2] at q3; rw [y] at q4
      exact n a o2 (Option.some.inj (Option.some.inj q4)) ⟨j, t, z1, o1, q3⟩
    · rw [z2] at q3; rw [y2] at q4
      exact r.dj j k t u a hjk z1 o1 y1 o2 q3 q4
theorem Ow.sets {i : Nat} {v : V} {s : Slot} {a : Addr} (h : Ow (env.set i (some s)) (σ.set i (some v)) a) : Ow env σ a ∨ (s.isOwn = true ∧ v = .ref a) := by
  obtain ⟨j, t, h1, h2, h3⟩ := h
  by_cases hj : i = j
  · subst hj
    by_cases hl : i < env.length
    · rw [List.getElem?_set_self hl] at h1; cases h1
      by_cases hl2 : i < σ.length
      · rw [List.getElem?_set_self hl2] at h3; exact .inr ⟨h2, Option.some.inj (Option.some.inj h3)⟩
      · rw [List.getElem?_eq_none (by rw [List.length_set]; omega)] at h3; cases h3
    · rw [List.getElem?_eq_none (by rw [List.length_set]; omega)] at h1; cases h1
  · rw [List.getElem?_set_ne hj] at h1 h3; exact .inl ⟨j, t, h1, h2, h3⟩

/-! ### what is stored -/
/-- behind the evaluation of an expression into a slot -/
def GoSl (K : PySem.W.Frag) (mg : Str → Option Value) (W : Wd) (env : SEnv) (σ : L2.St) (H : Hp) (S' : List O) (sl : Slot) (Q : VK) : Prop :=
  ∀ W1 v H1, W.le W1 → Frame W W1 H H1 → SRel K mg W1 env σ H1 → StRel K mg W1 S' H1 → SlotR K mg W1 H1 v sl → (∀ a, sl.isOwn = true → v = .ref a → H a = none) → Q v H1
def tSl (K : PySem.W.Frag) (mg : Str → Option Value) (m : SEnv → M Slot) : TE := fun σ H Q =>
  ∃ (W : Wd) (env : SEnv) (S : List O), SRel K mg W env σ H ∧ StRel K mg W S H ∧ ∃ sl S', m env S = some (sl, S') ∧ GoSl K mg W env σ H S' sl Q
structure DnSl (X : Cx) (e : Expr) (m : SEnv → M Slot) : Prop where
  pe : PE X e (tSl X.K X.mg m)
def valM (m : Env → M Pm.D) : SEnv → M Slot := fun env => bnd (evS m env) fun d => ret (.val d)
def ownM (m : Env → M (List Pm.D)) : SEnv → M Slot := fun env => bnd (evL m env) fun d => ret (.own d)
theorem val_run {m : Env → M Pm.D} {Q : VK} (h : tSl K mg (valM m) σ H Q) : tE K mg m σ H Q := by
  obtain ⟨W, env, S, r, s, sl, S', h, g⟩ := h
  obtain ⟨d, S1, h1, h⟩ := bnd_some h
  cases h
  exact evS_run r s h1 fun W1 v H1 le f r1 s1 i => g W1 v H1 le f r1 s1 i fun a z => by cases z
theorem own_run {m : Env → M (List Pm.D)} {Q : VK} (h : tSl K mg (ownM m) σ H Q) : tL K mg m σ H Q := by
  obtain ⟨W, env, S, r, s, sl, S', h, g⟩ := h
  obtain ⟨d, S1, h1, h⟩ := bnd_some h
  cases h
  exact evL_run r s h1 fun W1 p vs H1 le f r1 s1 hp i z n hn => g W1 (.ref p) H1 le f r1 s1 ⟨p, vs, rfl, hp, i, z, n⟩ fun a _ e => by cases e; exact hn
theorem dsl_val {e : Expr} {m : Env → M Pm.D} (h : Dn X e m) : DnSl X e (valM m) := ⟨PE.mono h.pe fun _ _ _ h => val_run h⟩
theorem dsl_own {e : Expr} {m : Env → M (List Pm.D)} (h : DnL X e m) : DnSl X e (ownM m) := ⟨PE.mono h.pe fun _ _ _ h => own_run h⟩
/-- the end of a store -/
theorem Nx.set {W1 : Wd} {v : V} {sl : Slot} {i : Nat} {P : L2.St → Hp → Prop} (g : Nx K mg W env σ H S' (env.set i (some sl)) P) (le : W.le W1) (f : Frame W W1 H H1) (r : SRel K mg W1 env σ H1) (s : StRel K mg W1 S' H1) (h : SlotR K mg W1 H1 v sl) (r0 : SRel K mg W env σ H)
    (n : ∀ a, sl.isOwn = true → v = .ref a → H a = none) : P (σ.set i (some v)) H1 := by
  have nO : ∀ a, sl.isOwn = true → v = .ref a → ¬ Ow env σ a := fun a h1 h2 h3 => by
    have h4 := n a h1 h2
    rcases (r0.ow h3).2.2 with ⟨vs, z⟩ | ⟨vs, z⟩ <;> rw [h4] at z <;> cases z
  exact g W1 _ H1 le ⟨fun a o e hr _ => f.kp a o e hr, f.fr, fun a o e => (f.fz a o e).imp id .inl, fun a h => by
    rcases h.sets with z | ⟨z1, z2⟩
    · exact .inl z
    · exact .inr (n a z1 z2), fun a e => f.tr le s e⟩ (r.sets h nO) s
/-- x = e -/
def setM (i : Nat) (m : SEnv → M Slot) : MS := fun env => bnd (m env) fun sl => ret (.nx (env.set i (some sl)))
theorem ds_set {i : Nat} {x : Str} {e : Expr} {m : SEnv → M Slot} {pos pos' : Pos} (hN : X.N.Nodup) (hx : Loc X.env.scope x) (he : DnSl X e m) (hi : X.N[i]? = some x := by rfl) (hs : swapsWith e (some (.Name x pos')) pos.line X.env = pure false := by rfl)
    (hf : X.fn x = true ∨ X.env.scope.names.lookup x = some .local := by first | exact .inl rfl | exact .inr rfl | assumption) : Ds X (.Assign [.Name x pos'] e pos) (setM i m) := ⟨PS.mono (ps_set hN hi hx he.pe hs hf) fun D σ H ⟨W, env, S, r, s, fl, S', h, g⟩ => by
  obtain ⟨sl, S1, h1, h⟩ := bnd_some h
  cases h
  exact ⟨W, env, S, r, s, sl, S', h1, fun W1 v H1 le f r1 s1 h n => Nx.set g le f r1 s1 h r n⟩⟩
/-- x = [..] on one line -/
theorem ds_setLc {i : Nat} {y : Str} {py : Pos} {elt tg iter : Expr} {ifs : List Expr} {scope : Scope} {own : List (Str × Nat)} {pos spos : Pos} {mi : Env → M (List Pm.D)} {set : SetF} {mt : Env → M Bool} {me : Env → M Pm.D} {g : TG} (hc : X.calm = true) (hN : X.N.Nodup) (hyl : X.env.scope.names.lookup y = some .local)
    (hsw : swapsWith (.ListComp elt [⟨tg, iter, ifs, 0⟩] scope pos) (some (.Name y py)) spos.line X.env = pure true) (hi : DnI X tg iter mi) (ok : BlkOk X.N X.env.scope scope own) (hs : GS X.K X.mg g (own.map (·.2)) set)
    (hg : ∀ (s : Shared) (H : Hp) (C : Addr) (cl : List (Str × Addr)) (fp : List Addr), PG (X.blk s H scope (compEnvC scope cl C X.env) fp) tg g) (ht : ∀ (s : Shared) (H : Hp) (C : Addr) (cl : List (Str × Addr)) (fp : List Addr), DnTs (X.blk s H scope (compEnvC scope cl C X.env) fp) ifs mt)
    (he : ∀ (s : Shared) (H : Hp) (C : Addr) (cl : List (Str × Addr)) (fp : List Addr), Dn (X.blk s H scope (compEnvC scope cl C X.env) fp) elt me) (hy : X.N[i]? = some y := by rfl) (hf : ∀ x, foldedSetIterable iter X.env x = pure x := by intro _; rfl) :
    Ds X (.Assign [.Name y py] (.ListComp elt [⟨tg, iter, ifs, 0⟩] scope pos) spos) (setM i (ownM (lcM (own.map (·.2)) mi set mt me))) :=
  ⟨PS.mono (ps_setLc hc hN hy hyl hsw hi.pi ok hg (fun s H C cl fp => (ht s H C cl fp).pt) (fun s H C cl fp => (he s H C cl fp).pe) hf) fun D σ H ⟨W, env, S, r, s, fl, S', h, g⟩ => by
    obtain ⟨sl, S1, h1, h⟩ := bnd_some h
    cases h
    exact lc_run hs (own_run ⟨W, env, S, r, s, sl, S', h1, fun W1 v H1 le f r1 s1 h n => Nx.set g le f r1 s1 h r n⟩)⟩
/-! several at once -/
def GoSls (K : PySem.W.Frag) (mg : Str → Option Value) (W : Wd) (env : SEnv) (σ : L2.St) (H : Hp) (S' : List O) (sl : List Slot) (Q : List V → Hp → Prop) : Prop :=
  ∀ W1 vs H1, W.le W1 → Frame W W1 H H1 → SRel K mg W1 env σ H1 → StRel K mg W1 S' H1 → SRel K mg W1 (sl.map some) (vs.map some) H1 → (∀ a, Ow (sl.map some) (vs.map some) a → H a = none) → Q vs H1
def tSls (K : PySem.W.Frag) (mg : Str → Option Value) (m : SEnv → M (List Slot)) : TA := fun σ H Q =>
  ∃ (W : Wd) (env : SEnv) (S : List O), SRel K mg W env σ H ∧ StRel K mg W S H ∧ ∃ sl S', m env S = some (sl, S') ∧ GoSls K mg W env σ H S' sl Q
structure DnSls (X : Cx) (es : List Expr) (m : SEnv → M (List Slot)) : Prop where
  pa : PA X es (tSls X.K X.mg m)
theorem dsls_nil : DnSls X [] (fun _ => ret []) := ⟨PA.mono pa_nil fun σ H Q ⟨W, env, S, r, s, sl, S', h, g⟩ => by
  cases h
  exact g W [] H (.refl _) (.refl _ _) r s ⟨rfl, fun i t q => by simp at q, fun i j s t a _ q => by simp at q⟩ fun a ⟨i, t, q, _⟩ => by simp at q⟩
theorem dsls_cons {e : Expr} {es : List Expr} {me : SEnv → M Slot} {m : SEnv → M (List Slot)} (h1 : DnSl X e me) (h2 : DnSls X es m) (hs : starEach (e :: es) X.env = (false, eval e X.env) :: starEach es X.env := by rfl) :
    DnSls X (e :: es) (fun env => bnd (me env) fun x => bnd (m env) fun xs => ret (x :: xs)) := ⟨PA.mono (pa_cons h1.pe h2.pa hs) fun σ H Q ⟨W, env, S, r, s, sl, S', h, g⟩ => by
  obtain ⟨x, S1, h1, h⟩ := bnd_some h
  obtain ⟨xs, S2, h2, h⟩ := bnd_some h
  cases h
  refine ⟨W, env, S, r, s, x, S1, h1, fun W1 v1 H1 le1 f1 r1 s1 i1 n1 => ?_⟩
  refine ⟨W1, env, S1, r1, s1, xs, _, h2, fun W2 vs H2 le2 f2 r2 s2 i2 n2 => ?_⟩
  refine g W2 _ H2 (le1.trans le2) (f1.trans s s1 le1 f2 le2) r2 s2 (i2.cons (i1.step le2 f2) fun a o e ho => ?_) fun a ⟨i, t, q1, q2, q3⟩ => ?_
  · have z := n2 a ho
    subst e
    cases x with
    | val d => cases o
    | own ds => obtain ⟨a', vs', q, h4, _⟩ := i1; cases q; rw [z] at h4; cases h4
    | ownd ks ds => obtain ⟨a', vs', q, h4, _⟩ := i1; cases q; rw [z] at h4; cases h4
  · cases i with
    | zero => cases q1; exact n1 a q2 (Option.some.inj (Option.some.inj q3))
    | succ i => exact f1.tr le1 s1 (n2 a ⟨i, t, q1, q2, q3⟩)⟩
def setL : List Nat → List Slot → SEnv → Option SEnv
  | [], [], env => some env
  | i :: is, s :: ss, env => setL is ss (env.set i (some s))
  | _, _, _ => none
def setLσ : List Nat → List V → L2.St → L2.St
  | i :: is, v :: vs, σ => setLσ is vs (σ.set i (some v))
  | _, _, σ => σ
theorem SRel.tail {s : Slot} {v : V} (r : SRel K mg W (some s :: env) (some v :: σ) H) : SRel K mg W env σ H := ⟨Nat.succ.inj r.len, fun i t q => r.ats (i + 1) t q, fun i j t u a hij q1 o1 q2 o2 q3 q4 => r.dj (i + 1) (j + 1) t u a (fun h => hij (Nat.succ.inj h)) q1 o1 q2 o2 q3 q4⟩
theorem SRel.setL : ∀ {is : List Nat} {ss : List Slot} {vs : List V} {env e : SEnv} {σ : L2.St}, SRel K mg W env σ H → SRel K mg W (ss.map some) (vs.map some) H → (∀ a, Ow (ss.map some) (vs.map some) a → ¬ Ow env σ a) → Pm.setL is ss env = some e →
    SRel K mg W e (setLσ is vs σ) H ∧ ∀ a, Ow e (setLσ is vs σ) a → Ow env σ a ∨ Ow (ss.map some) (vs.map some) a
  | [], [], vs, env, e, σ, r, q, n, h => by
    cases h
    cases vs with
    | nil => exact ⟨r, fun a h => .inl h⟩
    | cons v vs => have := q.len; simp at this
  | i :: is, s :: ss, [], env, e, σ, r, q, n, h => by have := q.len; simp at this
  | i :: is, s :: ss, v :: vs, env, e, σ, r, q, n, h => by
    have hs : SlotR K mg W H v s := by obtain ⟨w, e1, e2⟩ := q.ats 0 s rfl; cases e1; exact e2
    have r1 : SRel K mg W (env.set i (some s)) (σ.set i (some v)) H := r.sets hs fun a o e => n a ⟨0, s, rfl, o, by rw [e]; rfl⟩
    obtain ⟨r2, b⟩ := SRel.setL (is := is) r1 q.tail (fun a ha hb => by
      obtain ⟨j, t, q1, q2, q3⟩ := ha
      rcases hb.sets with z | ⟨z1, z2⟩
      · exact n a ⟨j + 1, t, q1, q2, q3⟩ z
      · exact q.dj 0 (j + 1) s t a (by omega) rfl z1 q1 q2 (by rw [z2]; rfl) q3) h
    refine ⟨r2, fun a ha => ?_⟩
    rcases b a ha with z | ⟨j, t, q1, q2, q3⟩
    · rcases z.sets with z | ⟨z1, z2⟩
      · exact .inl z
      · exact .inr ⟨0, s, rfl, z1, by rw [z2]; rfl⟩
    · exact .inr ⟨j + 1, t, q1, q2, q3⟩
def parM (is : List Nat) (m : SEnv → M (List Slot)) : MS := fun env => bnd (m env) fun ss => match setL is ss env with
  | some e => ret (.nx e)
  | none => stuck
theorem par_run {is : List Nat} {m : SEnv → M (List Slot)} {D : Ends} {Q : List V → Hp → Prop} (h : tSt K mg (parM is m) D σ H) (k : ∀ vs H1, vs.length = is.length → (∀ p, H1 p = none → D.nx (setLσ is vs σ) (upd H1 p (.tup vs))) ∧ D.nx (setLσ is vs σ) H1 → Q vs H1) : tSls K mg m σ H Q := by
  obtain ⟨W, env, S, r, s, fl, S', h, g⟩ := h
  obtain ⟨ss, S1, h1, h⟩ := bnd_some h
  cases q : setL is ss env with
  | none => rw [q] at h; cases h
  | some e =>
    rw [q] at h
    cases h
    refine ⟨W, env, S, r, s, ss, S', h1, fun W1 vs H1 le1 f1 r1 s1 i1 n1 => ?_⟩
    have lens : ∀ {is : List Nat} {ss : List Slot} {env e : SEnv}, setL is ss env = some e → ss.length = is.length := fun {is} => by
      induction is with
      | nil => intro ss env e h; cases ss with
        | nil => rfl
        | cons _ _ => cases h
      | cons i is ih => intro ss env e h; cases ss with
        | nil => cases h
        | cons s ss => exact congrArg (· + 1) (ih h)
    have hl : vs.length = is.length := by
      have := i1.len
      rw [List.length_map, List.length_map] at this
      rw [← this]; exact lens q
    have nO : ∀ a, Ow (ss.map some) (vs.map some) a → ¬ Ow env σ a := fun a h1 h3 => by
      have h4 := n1 a h1
      rcases (r.ow h3).2.2 with ⟨vs, z⟩ | ⟨vs, z⟩ <;> rw [h4] at z <;> cases z
    obtain ⟨r2, b2⟩ := r1.setL i1 nO q
    have fo : ∀ a, Ow e (setLσ is vs σ) a → Ow env σ a ∨ H a = none := fun a h => (b2 a h).imp id (n1 a)
    refine k vs H1 hl ⟨fun p hp => ?_, ?_⟩
    · have le2 := Wd.add_le (o := .tup vs) s1 hp
      have f2 := Frame.add (o := .tup vs) s1 hp
      have f := f1.trans s s1 le1 f2 le2
      exact g _ _ _ (le1.trans le2) ⟨fun a o e hr _ => f.kp a o e hr, f.fr, fun a o e => (f.fz a o e).imp id .inl, fo, fun a e => f.tr (le1.trans le2) (s1.add hp) e⟩ (r2.step le2 f2) (s1.add hp)
    · exact g W1 _ H1 le1 ⟨fun a o e hr _ => f1.kp a o e hr, f1.fr, fun a o e => (f1.fz a o e).imp id .inl, fo, fun a e => f1.tr le1 s1 e⟩ r2 s1
/-- a, b = x, y (two plain locals) -/
theorem ds_par {i j : Nat} {x y : Str} {a b : Expr} {m : SEnv → M (List Slot)} {px py pt pos : Pos} {kt k2 pt2} (hc : X.calm = true) (hN : X.N.Nodup) (hij : i ≠ j) (ha : DnSls X [a, b] m) (hi : X.N[i]? = some x := by rfl) (hj : X.N[j]? = some y := by rfl)
    (hx : X.env.scope.names.lookup x = some .local := by rfl) (hy : X.env.scope.names.lookup y = some .local := by rfl)
    (hw : swappedStores [.Tuple [.Name x px, .Name y py] kt pt] (.Tuple [a, b] k2 pt2) X.env = pure (some [x, y]) := by rfl)
    (hs : swapsWithSole [.Tuple [.Name x px, .Name y py] kt pt] (.Tuple [a, b] k2 pt2) pos.line X.env = pure false := by rfl) :
    Ds X (.Assign [.Tuple [.Name x px, .Name y py] kt pt] (.Tuple [a, b] k2 pt2) pos) (parM [i, j] m) := ⟨PS.mono (ps_par hc hN hi hj hij hx hy ha.pa hw hs) fun D σ H h => par_run h fun vs H1 hl h => by
  match vs, hl with
  | [v, w], _ => exact ⟨v, w, rfl, h.2⟩⟩
theorem ds_par3 {i j l : Nat} {x y z : Str} {a b c : Expr} {m : SEnv → M (List Slot)} {px py pz pt pos : Pos} {kt k2 pt2} (hc : X.calm = true) (hN : X.N.Nodup) (hij : i ≠ j) (hil : i ≠ l) (hjl : j ≠ l) (ha : DnSls X [a, b, c] m) (hi : X.N[i]? = some x := by rfl) (hj : X.N[j]? = some y := by rfl) (hl : X.N[l]? = some z := by rfl)
    (hx : X.env.scope.names.lookup x = some .local := by rfl) (hy : X.env.scope.names.lookup y = some .local := by rfl) (hz : X.env.scope.names.lookup z = some .local := by rfl)
    (hw : swappedStores [.Tuple [.Name x px, .Name y py, .Name z pz] kt pt] (.Tuple [a, b, c] k2 pt2) X.env = pure (some [x, y, z]) := by rfl)
    (hs : swapsWithSole [.Tuple [.Name x px, .Name y py, .Name z pz] kt pt] (.Tuple [a, b, c] k2 pt2) pos.line X.env = pure false := by rfl) :
    Ds X (.Assign [.Tuple [.Name x px, .Name y py, .Name z pz] kt pt] (.Tuple [a, b, c] k2 pt2) pos) (parM [i, j, l] m) := ⟨PS.mono (ps_par3 hc hN hi hj hl hij hil hjl hx hy hz ha.pa hw hs) fun D σ H h => par_run h fun vs H1 hl h => by
  match vs, hl with
  | [u, v, w], _ => exact ⟨u, v, w, rfl, h.2⟩⟩
/-- the same by way of a tuple: some name is a cell -/
theorem ds_parT {is : List Nat} {es tes : List Expr} {m : SEnv → M (List Slot)} {pt pos : Pos} {kt k2 pt2} (ha : DnSls X es m) (hg : PG X (.Tuple tes kt pt) (gTup X.K is.length (gNs is))) (hz : is.length ≤ sizeLine := by decide)
    (hs : swapsWithSole [.Tuple tes kt pt] (.Tuple es k2 pt2) pos.line X.env = pure false := by rfl) (hw : swappedStores [.Tuple tes kt pt] (.Tuple es k2 pt2) X.env = pure none := by rfl)
    (h1 : (assignEach [.Tuple tes kt pt] X.env).map (·.2) = [assign (.Tuple tes kt pt) X.env] := by rfl) : Ds X (.Assign [.Tuple tes kt pt] (.Tuple es k2 pt2) pos) (parM is m) := ⟨PS.mono (ps_asg (pe_tup ha.pa) hg hs hw h1) fun D σ H h => par_run h fun vs H1 hl h => by
  refine ⟨by rw [hl]; exact hz, fun p hp => ⟨p, vs, rfl, SqT.of upd_same, hl, ?_⟩⟩
  have h2 := h.1 p hp
  have go : ∀ {is : List Nat} {vs : List V} {σ : L2.St} {H2 : Hp}, vs.length = is.length → D.nx (setLσ is vs σ) H2 → gNs is vs σ H2 D.nx := fun {is} => by
    induction is with
    | nil => intro vs σ H2 hl h; cases vs with
      | nil => exact ⟨rfl, h⟩
      | cons _ _ => cases hl
    | cons i is ih => intro vs σ H2 hl h; cases vs with
      | nil => cases hl
      | cons v vs => exact ⟨v, vs, rfl, ih (Nat.succ.inj hl) h⟩
  exact go hl h2⟩
/-! targets at the statements' level -/
abbrev SetS := Pm.D → SEnv → Option SEnv
structure GSS (K : PySem.W.Frag) (mg : Str → Option Value) (g : TG) (set : SetS) : Prop where
  run : ∀ (W : Wd) (S : List O) (H : Hp) (env env' : SEnv) (σ : L2.St) (v : V) (d : Pm.D) (Q : L2.St → Hp → Prop), StRel K mg W S H → SRel K mg W env σ H → IsV K mg W v d → set d env = some env' → (∀ σ', SRel K mg W env' σ' H → (∀ a, Ow env' σ' a → Ow env σ a) → Q σ' H) → g v σ H Q
def setNS (i : Nat) : SetS := fun d env => some (env.set i (some (.val d)))
theorem gss_name {i : Nat} : GSS K mg (gName i) (setNS i) := ⟨fun W S H env env' σ v d Q s e h q k => by
  cases q; exact k _ (e.setv h) fun a h => h.setv⟩
def setAllS : List Nat → List Pm.D → SEnv → Option SEnv
  | [], [], env => some env
  | i :: is, d :: ds, env => setAllS is ds (env.set i (some (.val d)))
  | _, _, _ => none
def setTS (is : List Nat) : SetS := fun d env => match d with
  | .tup ds => setAllS is ds env
  | .tpl ds => setAllS is ds env
  | _ => none
theorem setAllS_len : ∀ {is : List Nat} {ds : List Pm.D} {env env' : SEnv}, setAllS is ds env = some env' → ds.length = is.length
  | [], [], _, _, _ => rfl
  | i :: is, d :: ds, env, env', h => congrArg (· + 1) (setAllS_len (is := is) h)
theorem gss_all {Q : L2.St → Hp → Prop} : ∀ {is : List Nat} {xs : List V} {ds : List Pm.D} {env env' : SEnv} {σ : L2.St}, SRel K mg W env σ H → IsVs K mg W xs ds → setAllS is ds env = some env' → (∀ σ', SRel K mg W env' σ' H → (∀ a, Ow env' σ' a → Ow env σ a) → Q σ' H) → gNs is xs σ H Q
  | [], _, _, _, _, _, e, .nil, q, k => by cases q; exact ⟨rfl, k _ e fun _ h => h⟩
  | i :: is, _, d :: ds, env, env', σ, e, .cons a b, q, k => ⟨_, _, rfl, gss_all (is := is) (e.setv a) b q fun σ' e' hw => k σ' e' fun a h => (hw a h).setv⟩
theorem gss_tup {is : List Nat} : GSS K mg (gTup K is.length (gNs is)) (setTS is) := ⟨fun W S H env env' σ v d Q s e h q k => by
  cases h <;> simp only [setTS, reduceCtorEq] at q
  · rename_i ha ia
    exact ⟨_, _, rfl, TupX.up s ha, by rw [ia.length]; exact setAllS_len q, gss_all e ia q k⟩
  · rename_i ha ia
    exact ⟨_, _, rfl, SqT.up s ha, by rw [ia.length]; exact setAllS_len q, gss_all e ia q k⟩⟩
/-- target = e, by the target's reading -/
def asgM (set : SetS) (m : Env → M Pm.D) : MS := fun env => bnd (evS m env) fun d => match set d env with
  | some e => ret (.nx e)
  | none => stuck
theorem ds_asg {tg e : Expr} {m : Env → M Pm.D} {g : TG} {set : SetS} {pos : Pos} (he : Dn X e m) (hg : PG X tg g) (hs : GSS X.K X.mg g set) (h0 : swapsWithSole [tg] e pos.line X.env = pure false := by rfl) (hw : swappedStores [tg] e X.env = pure none := by rfl)
    (h1 : (assignEach [tg] X.env).map (·.2) = [assign tg X.env] := by rfl) : Ds X (.Assign [tg] e pos) (asgM set m) := ⟨PS.mono (ps_asg he.pe hg h0 hw h1) fun D σ H ⟨W, env, S, r, s, fl, S', h, g⟩ => by
  obtain ⟨d, S1, h1, h⟩ := bnd_some h
  cases q : set d env with
  | none => rw [q] at h; cases h
  | some e =>
    rw [q] at h
    cases h
    refine evS_run r s h1 fun W1 v H1 le f r1 s1 i => ?_
    exact hs.run W1 S' H1 env e σ v d _ s1 r1 i q fun σ' r2 ho => g W1 σ' H1 le (.of f le s1 ho) r2 s1⟩
end
end Pm

set_option Elab.async false
set_option linter.all false
set_option maxRecDepth 100000
set_option maxHeartbeats 600000
/-! Pm9: loops, the body of a def, lists that change, dicts. -/
namespace Pm
open PySem PySem.Spec PyProof.Rows L2

section
variable {X : Cx} {K : PySem.W.Frag} {mg : Str → Option Value} {W : Wd} {env e : SEnv} {σ : L2.St} {H H1 : Hp} {S S1 S' : List O} {D : Ends}
/-! ### while -/
def whN (c : Env → M Bool) (b : MS) : Nat → SEnv → M Flo
  | 0, _ => stuck
  | n + 1, env => bnd (c (bor env)) fun k => if k = true then bnd (b env) fun r => match r with
    | .nx e => whN c b n e
    | .ct e => whN c b n e
    | .bk e => ret (.nx e)
    | .rt d => ret (.rt d)
  else ret (.nx env)
open Classical in
noncomputable def whM (c : Env → M Bool) (b : MS) : MS := fun env S => if h : ∃ r n, whN c b n env S = some r then some h.choose else none
theorem whN_up {c : Env → M Bool} {b : MS} : ∀ {n : Nat} {env : SEnv} {S : List O} {r : Flo × List O}, whN c b n env S = some r → whN c b (n + 1) env S = some r
  | 0, _, _, _, h => by cases h
  | n + 1, env, S, r, h => by
    unfold whN at h ⊢
    obtain ⟨k, S1, h1, h⟩ := bnd_some h
    unfold bnd
    rw [h1]
    simp only
    cases k with
    | false => exact h
    | true =>
      rw [if_pos rfl] at h ⊢
      obtain ⟨fl, S2, h2, h⟩ := bnd_some h
      rw [h2]
      simp only
      cases fl with
      | nx e => exact whN_up h
      | ct e => exact whN_up h
      | bk e => exact h
      | rt d => exact h
theorem whN_le {c : Env → M Bool} {b : MS} {n m : Nat} {env : SEnv} {S : List O} {r : Flo × List O} (hnm : n ≤ m) (h : whN c b n env S = some r) : whN c b m env S = some r := by
  induction hnm with
  | refl => exact h
  | step _ ih => exact whN_up ih
/-- how a while's value is told: by so many turns -/
theorem whM_of {c : Env → M Bool} {b : MS} {n : Nat} {env : SEnv} {S : List O} {r : Flo × List O} (h : whN c b n env S = some r) : whM c b env S = some r := by
  have hx : ∃ r n, whN c b n env S = some r := ⟨r, n, h⟩
  unfold whM
  rw [dif_pos hx]
  obtain ⟨m, hm⟩ := hx.choose_spec
  have h1 := whN_le (Nat.le_max_left n m) h
  have h2 := whN_le (Nat.le_max_right n m) hm
  rw [h1] at h2
  exact h2.symm
theorem whM_some {c : Env → M Bool} {b : MS} {env : SEnv} {S : List O} {r : Flo × List O} (h : whM c b env S = some r) : ∃ n, whN c b n env S = some r := by
  unfold whM at h
  split at h
  · rename_i hx
    cases h
    exact hx.choose_spec
  · cases h
theorem ds_while {c : Expr} {body : List Stmt} {mc : Env → M Bool} {b : MS} {pos : Pos} (hp : PassesOwn (model X.prog X.w) X.A X.env X.xe) (hc : DnT X c mc) (hb : Dss X body b) : Ds X (.While c body [] pos) (whM mc b) := ⟨PS.mono (ps_while hp hc.pt hb.pss) fun D σ H ⟨W, env, S, r, s, fl, S', h, g⟩ => by
  obtain ⟨n, h⟩ := whM_some h
  refine ⟨fun m σ H => ∃ W env S, SRel X.K X.mg W env σ H ∧ StRel X.K X.mg W S H ∧ whN mc b m env S = some (fl, S') ∧ FloR X.K X.mg W env σ H S' D fl, ⟨n, W, env, S, r, s, h, g⟩, fun m σ H hW => ?_⟩
  obtain ⟨W, env, S, r, s, h, g⟩ := hW
  cases m with
  | zero => cases h
  | succ m =>
    unfold whN at h
    obtain ⟨k, S1, h1, h⟩ := bnd_some h
    refine ⟨lent W env σ H, bor env, S, lent_env r, lent_st r s, k, S1, h1, fun W1 H1 le1 f1 s1 => ?_⟩
    have bk := thaw r s le1 f1 s1
    have fs : FrameS (Ow env σ) (Ow env σ) W (back W1 env σ) H H1 := .of bk.f bk.le bk.s fun _ h => h
    show if k = true then _ else _
    cases k with
    | false =>
      rw [if_neg Bool.false_ne_true] at h ⊢
      cases h
      exact g _ σ H1 bk.le fs bk.r bk.s
    | true =>
      rw [if_pos rfl] at h ⊢
      obtain ⟨fl1, S2, h2, h⟩ := bnd_some h
      refine ⟨fun σ' H' => ∃ W env S, SRel X.K X.mg W env σ' H' ∧ StRel X.K X.mg W S H' ∧ whN mc b m env S = some (fl, S') ∧ FloR X.K X.mg W env σ' H' S' D fl, fun σ' H' hN => ⟨m, Nat.lt_succ_self _, hN⟩, ?_⟩
      refine ⟨back W1 env σ, env, S1, bk.r, bk.s, fl1, S2, h2, ?_⟩
      have g1 := g.step bk.le fs
      cases fl1 with
      | nx e => exact fun W2 σ2 H2 le2 f2 r2 s2 => ⟨W2, e, S2, r2, s2, h, g1.step le2 f2⟩
      | ct e => exact fun W2 σ2 H2 le2 f2 r2 s2 => ⟨W2, e, S2, r2, s2, h, g1.step le2 f2⟩
      | bk e => cases h; exact g1
      | rt d => cases h; exact g1⟩
/-! ### for -/
def forL (set : SetS) (b : MS) : List Pm.D → SEnv → M Flo
  | [], env => ret (.nx env)
  | d :: ds, env => match set d env with
    | none => stuck
    | some e => bnd (b e) fun r => match r with
      | .nx e => forL set b ds e
      | .ct e => forL set b ds e
      | .bk e => ret (.nx e)
      | .rt d => ret (.rt d)
theorem for_run {J : It} {ds : List Pm.D} {set : SetS} {b : MS} {g : TG} {fl : Flo} (hs : GSS K mg g set) (jr : JRel K mg J W ds) (r : SRel K mg W env σ H) (s : StRel K mg W S H) (h : forL set b ds env S = some (fl, S')) (go : FloR K mg W env σ H S' D fl) :
    ∃ Wt : Nat → Nat → L2.St → Hp → Prop, (∃ m, Wt 0 m σ H) ∧ ∀ i m σ H, Wt i m σ H →
      (J.stop i H ∧ D.nx σ H) ∨ (J.go i H ∧ ∃ N : L2.St → Hp → Prop, (∀ σ' H', N σ' H' → ∃ m', m' < m ∧ Wt (i + 1) m' σ' H') ∧ ∀ x H', J.yld i H x H' → g x σ H' fun σ2 H2 => tSt K mg b { D with nx := N, ct := N, bk := D.nx } σ2 H2) := by
  refine ⟨fun i m σ H => i + m = ds.length ∧ ∃ W2 env2 S2, W.le W2 ∧ SRel K mg W2 env2 σ H ∧ StRel K mg W2 S2 H ∧ forL set b (ds.drop i) env2 S2 = some (fl, S') ∧ FloR K mg W2 env2 σ H S' D fl, ⟨ds.length, by omega, W, env, S, .refl _, r, s, by rw [List.drop_zero]; exact h, go⟩, fun i m σ H hW => ?_⟩
  obtain ⟨him, W2, env2, S2, le2, r2, s2, h, go⟩ := hW
  have jr2 := jr W2 S2 H le2 s2
  by_cases hi : i < ds.length
  · refine .inr ?_
    obtain ⟨jgo, jy⟩ := jr2.1 i _ (List.getElem?_eq_getElem hi)
    rw [List.drop_eq_getElem_cons hi] at h
    simp only [forL] at h
    cases hset : set ds[i] env2 with
    | none => rw [hset] at h; cases h
    | some e =>
      rw [hset] at h
      obtain ⟨fl1, S3, h3, h⟩ := bnd_some h
      refine ⟨jgo, fun σ' H' => i + 1 + (m - 1) = ds.length ∧ ∃ W2 env2 S2, W.le W2 ∧ SRel K mg W2 env2 σ' H' ∧ StRel K mg W2 S2 H' ∧ forL set b (ds.drop (i + 1)) env2 S2 = some (fl, S') ∧ FloR K mg W2 env2 σ' H' S' D fl, fun σ' H' hN => ⟨m - 1, by omega, hN⟩, fun x H3 hy => ?_⟩
      obtain ⟨W3, le3, f3, s3, ix⟩ := jy x H3 hy
      have r3 := r2.step le3 f3
      refine hs.run W3 S2 H3 env2 e σ x ds[i] _ s3 r3 ix hset fun σ4 r4 ho => ?_
      have fs3 : FrameS (Ow env2 σ) (Ow e σ4) W2 W3 H H3 := .of f3 le3 s3 ho
      have g3 := go.step le3 fs3
      refine ⟨W3, e, S2, r4, s3, fl1, S3, h3, ?_⟩
      cases fl1 with
      | nx e => exact fun W5 σ5 H5 le5 f5 r5 s5 => ⟨by omega, W5, e, S3, (le2.trans le3).trans le5, r5, s5, h, g3.step le5 f5⟩
      | ct e => exact fun W5 σ5 H5 le5 f5 r5 s5 => ⟨by omega, W5, e, S3, (le2.trans le3).trans le5, r5, s5, h, g3.step le5 f5⟩
      | bk e => cases h; exact g3
      | rt d => cases h; exact g3
  · refine .inl ?_
    have hi2 : i = ds.length := by omega
    subst hi2
    rw [List.drop_length] at h
    cases h
    exact ⟨jr2.2, go W2 σ H (.refl _) (.of (.refl _ _) (.refl _) s2 fun _ h => h) r2 s2⟩
def forM (mi : Env → M (List Pm.D)) (set : SetS) (b : MS) : MS := fun env => bnd (mi (str env)) fun ds => forL set b ds env
theorem ds_for {tg iter : Expr} {body : List Stmt} {mi : Env → M (List Pm.D)} {set : SetS} {b : MS} {g : TG} {pos : Pos} (hp : PassesOwn (model X.prog X.w) X.A X.env X.xe) (hc : X.calm = true) (hi : DnI X tg iter mi) (hg : PG X tg g) (hs : GSS X.K X.mg g set) (hb : Dss X body b) (hf : ∀ x, foldedSetIterable iter X.env x = pure x := by intro _; rfl) :
    Ds X (.For tg iter body [] pos) (forM mi set b) := ⟨PS.mono (ps_for hp hc hi.pi hg hb.pss (hs := hf)) fun D σ H ⟨W, env, S, r, s, fl, S', h, go⟩ => by
  obtain ⟨ds, S1, h1, h⟩ := bnd_some h
  refine ⟨W, str env, S, r.strict, s, ds, S1, h1, fun W1 J H1 le1 f1 s1 jr => ?_⟩
  exact for_run hs jr (r.step le1 f1) s1 h (go.step le1 (.of f1 le1 s1 fun _ h => h))⟩
/-- over a range: its bounds may read own ones -/
def tIr (K : PySem.W.Frag) (mg : Str → Option Value) (m : Env → M (List Pm.D)) : TI := fun σ H R =>
  ∃ (W : Wd) (env : Env) (S : List O), ERel K mg W env σ ∧ StRel K mg W S H ∧ ∃ ds S', m env S = some (ds, S') ∧ ∀ W' J H', W.le W' → Frame W W' H H' → StRel K mg W' S' H' → (∀ W, JRel K mg J W ds) → R J H'
structure DnIr (X : Cx) (tg iter : Expr) (m : Env → M (List Pm.D)) : Prop where
  pi : PI X tg iter (tIr X.K X.mg m)
theorem DnIr.di {tg iter : Expr} {m : Env → M (List Pm.D)} (h : DnIr X tg iter m) : DnI X tg iter m := ⟨PI.mono h.pi fun σ H R ⟨W, env, S, e, s, ds, S', h, g⟩ => ⟨W, env, S, e, s, ds, S', h, fun W1 J H1 le f s1 jr => g W1 J H1 le f s1 (jr _)⟩⟩
theorem dir_range1 {tg a : Expr} {m : Env → M (List Pm.D)} {p pos : Pos} (ha : DnA X [a] m) (hm : X.mg "range" = none) (hg : Gl X "range" := by rfl) (hs : starEach [a] X.env = [(false, eval a X.env)] := by rfl) : DnIr X tg (.Call (.Name "range" p) [a] [] pos) (fun env => bnd (m env) rg1D) :=
  ⟨PI.mono (pi_range1 hg hm ha.pa hs) fun σ H R ⟨W, env, S, e, s, ds, S', h, g⟩ => by
    obtain ⟨x, S1, h1, h⟩ := bnd_some h
    refine ⟨W, env, S, e, s, x, S1, h1, fun W1 v1 H1 le1 f1 s1 i1 => ?_⟩
    unfold rg1D at h
    split at h
    · split at h
      · rename_i hc
        cases h
        cases i1 with
        | cons a b => cases a; cases b; exact ⟨_, rfl, hc.1, hc.2, g W1 _ H1 le1 f1 s1 fun W => jr_range _ _⟩
      · cases h
    · cases h⟩
theorem dir_range2 {tg a b : Expr} {m : Env → M (List Pm.D)} {p pos : Pos} (ha : DnA X [a, b] m) (hm : X.mg "range" = none) (hg : Gl X "range" := by rfl) (hs : starEach [a, b] X.env = [(false, eval a X.env), (false, eval b X.env)] := by rfl) (hs2 : starEach [b] X.env = [(false, eval b X.env)] := by rfl) :
    DnIr X tg (.Call (.Name "range" p) [a, b] [] pos) (fun env => bnd (m env) rg2D) :=
  ⟨PI.mono (pi_range2 hg hm ha.pa hs hs2) fun σ H R ⟨W, env, S, e, s, ds, S', h, g⟩ => by
    obtain ⟨x, S1, h1, h⟩ := bnd_some h
    refine ⟨W, env, S, e, s, x, S1, h1, fun W1 v1 H1 le1 f1 s1 i1 => ?_⟩
    unfold rg2D at h
    split at h
    · split at h
      · rename_i hc
        cases h
        cases i1 with
        | cons a b => cases b with
          | cons b c => cases a; cases b; cases c; exact ⟨_, _, rfl, hc, g W1 _ H1 le1 f1 s1 fun W => jr_range _ _⟩
      · cases h
    · cases h⟩
def forR (mi : Env → M (List Pm.D)) (set : SetS) (b : MS) : MS := fun env => bnd (mi (bor env)) fun ds => forL set b ds env
theorem ds_forR {tg iter : Expr} {body : List Stmt} {mi : Env → M (List Pm.D)} {set : SetS} {b : MS} {g : TG} {pos : Pos} (hp : PassesOwn (model X.prog X.w) X.A X.env X.xe) (hc : X.calm = true) (hi : DnIr X tg iter mi) (hg : PG X tg g) (hs : GSS X.K X.mg g set) (hb : Dss X body b) (hf : ∀ x, foldedSetIterable iter X.env x = pure x := by intro _; rfl) :
    Ds X (.For tg iter body [] pos) (forR mi set b) := ⟨PS.mono (ps_for hp hc hi.pi hg hb.pss (hs := hf)) fun D σ H ⟨W, env, S, r, s, fl, S', h, go⟩ => by
  obtain ⟨ds, S1, h1, h⟩ := bnd_some h
  refine ⟨lent W env σ H, bor env, S, lent_env r, lent_st r s, ds, S1, h1, fun W1 J H1 le1 f1 s1 jr => ?_⟩
  have bk := thaw r s le1 f1 s1
  exact for_run hs (jr _) bk.r bk.s h (go.step bk.le (.of bk.f bk.le bk.s fun _ h => h))⟩

/-! ### the body of a def -/
def env0 (n : Nat) (ds : List Pm.D) : SEnv := ds.map (fun d => some (.val d)) ++ List.replicate (n - ds.length) none
def bodyM (n : Nat) (m : MS) : List Pm.D → M Pm.D := fun ds => bnd (m (env0 n ds)) fun r => match r with
  | .rt d => ret d
  | .nx _ => ret .non
  | _ => stuck
theorem env0_own {n : Nat} {ds : List Pm.D} {i : Nat} {s : Slot} (h : (env0 n ds)[i]? = some (some s)) : ∃ d, s = .val d ∧ ds[i]? = some d := by
  unfold env0 at h
  by_cases hi : i < ds.length
  · rw [List.getElem?_append_left (by rw [List.length_map]; exact hi), List.getElem?_map, List.getElem?_eq_getElem hi] at h
    cases h
    exact ⟨_, rfl, List.getElem?_eq_getElem hi⟩
  · rw [List.getElem?_append_right (by rw [List.length_map]; omega), List.getElem?_replicate] at h
    split at h <;> cases h
theorem srel0 {n : Nat} {N : List Str} {ds : List Pm.D} {vs : List V} (hN : N.length = n) (i : IsVs K mg W vs ds) : SRel K mg W (env0 n ds) (L2.start N vs) H := by
  refine ⟨?_, fun j s e => ?_, fun j k s t a _ h o => ?_⟩
  · unfold env0 L2.start
    rw [List.length_append, List.length_append, List.length_map, List.length_map, List.length_replicate, List.length_replicate, i.length, hN]
  · obtain ⟨d, rfl, h⟩ := env0_own e
    obtain ⟨v, h1, h2⟩ := i.get h
    refine ⟨v, ?_, h2⟩
    have hl : j < vs.length := (List.getElem?_eq_some_iff.mp h1).1
    unfold L2.start
    rw [List.getElem?_append_left (by rw [List.length_map]; exact hl), List.getElem?_map, h1]
    rfl
  · obtain ⟨d, rfl, _⟩ := env0_own h
    cases o
theorem ow0 {n : Nat} {ds : List Pm.D} {σ : L2.St} {a : Addr} (h : Ow (env0 n ds) σ a) : False := by
  obtain ⟨i, s, h1, h2, _⟩ := h
  obtain ⟨d, rfl, _⟩ := env0_own h1
  cases h2
theorem body_run {n k : Nat} {N : List Str} {m : MS} {vs : List V} {H : Hp} {Q : VK} {E : XK} (hN : N.length = n) (h : spF K mg k (bodyM n m) vs H Q E) : tSt K mg m { nx := fun _ H' => Q .non H', rt := Q } (L2.start N vs) H := by
  obtain ⟨W, S, ds, i, s, hl, d, S', h, g⟩ := h
  obtain ⟨r, S1, h1, h⟩ := bnd_some h
  refine ⟨W, env0 n ds, S, srel0 hN i, s, r, S1, h1, ?_⟩
  have fr : ∀ {B : Addr → Prop} {W' : Wd} {H' : Hp}, FrameS (Ow (env0 n ds) (L2.start N vs)) B W W' H H' → Frame W W' H H' := fun f => ⟨fun a o e hr => f.kp a o e hr ow0, f.fr, fun a o e => (f.fz a o e).imp id fun z => z.elim id fun z => (ow0 z).elim⟩
  cases r with
  | nx e => cases h; exact fun W1 σ1 H1 le f r1 s1 => g W1 .non H1 le (fr f) s1 .non
  | rt d => cases h; exact fun W1 v H1 le f s1 i1 => g W1 v H1 le (fr f) s1 i1
  | bk e => cases h
  | ct e => cases h
theorem fn_ok {P : Program} {w : World} {K : PySem.W.Frag} {mg : Str → Option Value} {base : Heap} {x qual : Str} {st : Stmt} {f : Addr} {fd : FuncData} {N ps : List Str} {k n : Nat} {m : MS} (F : L2.Fun K x qual st f fd) (Sc : FnScope N ps (defScope st)) (hN : N.length = n)
    (hb : ∀ (cdv : Value) (A : Around) (outer : List PySem.Env) (s : Shared) (H : Hp) (E : XK), Room k (A.deeper (envOfC qual (defScope st) s.heap.objs.size f cdv)) → Dss (cxOf CX0 P w K mg base N qual (defScope st) f cdv A outer s H E).nox (defBody st) m) :
    FnOk P w K mg base CX0 (k + 1) f fd ps (spF K mg ps.length (bodyM n m)) := by
  refine F.ok Sc (fun vs H Q E h => ?_) (fun cdv A outer s H vs Q E hr h => ?_)
  · obtain ⟨W, S, ds, i, _, hl, _⟩ := h
    rw [i.length]; exact hl
  · exact ⟨_, (hb cdv A outer s H E hr).pss, body_run hN h⟩

/-! ### shared lists -/
/-- o[i] = v, o a shared list -/
def stoL (l : Nat) (i : Int) (v : Pm.D) (S : List O) : Option (List O) := match S[l]? with
  | some (.lst ds) => match ixN ds.length i with
    | some j => if v.pure = true then some (S.set l (.lst (ds.set j v))) else none
    | none => none
  | _ => none
theorem pures_set : ∀ {ds : List Pm.D} {j : Nat} {v : Pm.D}, Pm.D.pures ds = true → v.pure = true → Pm.D.pures (ds.set j v) = true
  | [], _, _, h, _ => h
  | d :: ds, 0, v, h, hv => by
    rw [Pm.D.pures, Bool.and_eq_true] at h
    show (v.pure && Pm.D.pures ds) = true
    rw [hv, h.2]; rfl
  | d :: ds, j + 1, v, h, hv => by
    rw [Pm.D.pures, Bool.and_eq_true] at h
    show (d.pure && Pm.D.pures (ds.set j v)) = true
    rw [h.1, pures_set h.2 hv]; rfl
theorem sto_st {l : Nat} {o : O} {u : HO} (s : StRel K mg W S H) (hl : l < W.n) (ho : ORel K mg W (upd H (W.r l) u) (W.r l) o) : StRel K mg W (S.set l o) (upd H (W.r l) u) := by
  refine ⟨by rw [List.length_set]; exact s.len, fun a q e => ?_, s.zr, s.inj, fun j q e => ?_⟩
  · rw [upd_ne (fun z => by rw [z, s.zr l hl] at e; cases e)]; exact s.zh a q e
  · by_cases hj : l = j
    · subst hj
      rw [List.getElem?_set_self (by rw [← s.len]; exact hl)] at e
      cases e
      exact ho
    · rw [List.getElem?_set_ne hj] at e
      have hjn : j < W.n := by rw [s.len]; exact (List.getElem?_eq_some_iff.mp e).1
      exact (s.ob j q e).mono (.refl _) (by rw [upd_ne (fun z => hj (s.inj j l hjn hl z).symm)])
theorem sto_frame {l : Nat} {u : HO} (s : StRel K mg W S H) (hl : l < W.n) : Frame W W H (upd H (W.r l) u) :=
  ⟨fun a o e hr => by rw [upd_ne (fun z => hr l hl z.symm)]; exact e, fun l h k => absurd (Nat.lt_of_lt_of_le k h) (Nat.lt_irrefl _), fun a o e => .inl e⟩
/-- the store by values -/
theorem sto_run {o i v : V} {l : Nat} {k : Int} {d : Pm.D} {P : Hp → Prop} (s : StRel K mg W S H) (io : IsV K mg W o (.ref l)) (ii : IsV K mg W i (.int k)) (iv : IsV K mg W v d) (h : stoL l k d S = some S')
    (g : ∀ H', Frame W W H H' → StRel K mg W S' H' → P H') : rSetL o i v H P := by
  unfold stoL at h
  split at h
  · rename_i ds e
    split at h
    · rename_i j ej
      split at h
      · rename_i hp
        cases h
        cases io with
        | ref hl =>
          cases ii
          obtain ⟨vs, h1, h2, h3⟩ := s.ob l _ e
          refine ⟨_, vs, _, j, rfl, rfl, h1, by rw [h2.length]; exact ej, g _ (sto_frame s hl) (sto_st s hl ⟨_, upd_same, h2.set iv, pures_set h3 hp⟩)⟩
      · cases h
    · cases h
  · cases h
def sto3 (o i v : Pm.D) : M Unit := fun S => match o, i with
  | .ref l, .int k => (stoL l k v S).map fun S' => ((), S')
  | _, _ => none
/-- a store into a shared list: its target's reading, by the target's parts -/
def subG (K : PySem.W.Frag) (mg : Str → Option Value) (mo mi : Env → M Pm.D) : TG := gSub (tE K mg mo) (tE K mg mi) rSetL
/-- o[i] = e -/
def stoM (me mo mi : Env → M Pm.D) : MS := fun env => bnd (evS me env) fun v => bnd (mo (str env)) fun o => bnd (mi (str env)) fun i => bnd (sto3 o i v) fun _ => ret (.nx env)
theorem sto_tg {mo mi : Env → M Pm.D} {v : V} {d : Pm.D} {P : L2.St → Hp → Prop} {x : Unit} (r : SRel K mg W env σ H) (s : StRel K mg W S H) (iv : IsV K mg W v d) (h : bnd (mo (str env)) (fun o => bnd (mi (str env)) fun i => sto3 o i d) S = some (x, S'))
    (g : ∀ W1 H1, W.le W1 → FrameS (Ow env σ) (Ow env σ) W W1 H H1 → SRel K mg W1 env σ H1 → StRel K mg W1 S' H1 → P σ H1) : subG K mg mo mi v σ H P := by
  obtain ⟨o, S1, h1, h⟩ := bnd_some h
  obtain ⟨i, S2, h2, h⟩ := bnd_some h
  refine ⟨W, str env, S, r.strict, s, o, S1, h1, fun W1 v1 H1 le1 f1 s1 i1 => ?_⟩
  refine ⟨W1, str env, S1, r.strict.mono le1, s1, i, S2, h2, fun W2 v2 H2 le2 f2 s2 i2 => ?_⟩
  have key : ∃ l k, o = .ref l ∧ i = .int k ∧ stoL l k d S2 = some S' := by
    cases o with
    | ref l => cases i with
      | int k =>
        simp only [sto3] at h
        cases q : stoL l k d S2 with
        | none => rw [q] at h; cases h
        | some S3 => rw [q] at h; cases h; exact ⟨l, k, rfl, rfl, q⟩
      | _ => simp [sto3] at h
    | _ => simp [sto3] at h
  obtain ⟨l, k, rfl, rfl, q⟩ := key
  have f12 := f1.trans s s1 le1 f2 le2
  refine sto_run s2 (i1.mono le2) i2 ((iv.mono le1).mono le2) q fun H3 f3 s3 => ?_
  have f := f12.trans s s2 (le1.trans le2) f3 (.refl _)
  exact g W2 H3 (le1.trans le2) (.of f (le1.trans le2) s3 fun _ h => h) (r.step (le1.trans le2) f) s3
theorem ds_sto {o i e : Expr} {me mo mi : Env → M Pm.D} {p pos : Pos} (he : Dn X e me) (ho : Dn X o mo) (hi : Dn X i mi) (hs : swapsWithSole [.Subscript o i p] e pos.line X.env = pure false := by rfl) (hw : swappedStores [.Subscript o i p] e X.env = pure none := by rfl)
    (h1 : (assignEach [.Subscript o i p] X.env).map (·.2) = [assign (.Subscript o i p) X.env] := by rfl) (ha : ∀ v, assign (.Subscript o i p) X.env v = (do
      let ov ← holding [v] (eval o X.env)
      let iv ← holding [v, ov] (eval i X.env)
      standAt p
      holding [v, ov, iv] (setItem ov iv v)
      release [v, ov, iv] []) := by intro _; rfl) : Ds X (.Assign [.Subscript o i p] e pos) (stoM me mo mi) := ⟨PS.mono (ps_asg he.pe (pg_sub ho.pe hi.pe set_list ha) hs hw h1) fun D σ H ⟨W, env, S, r, s, fl, S', h, g⟩ => by
  obtain ⟨v, S1, h1, h⟩ := bnd_some h
  obtain ⟨ov, S2, h2, h⟩ := bnd_some h
  obtain ⟨iv, S3, h3, h⟩ := bnd_some h
  obtain ⟨u, S4, h4, h⟩ := bnd_some h
  cases h
  refine evS_run r s h1 fun W1 v1 H1 le1 f1 r1 s1 i1 => ?_
  refine sto_tg (x := u) (S' := S') r1 s1 i1 (by unfold bnd; rw [h2]; simp only; rw [h3]; exact h4) fun W2 H2 le2 f2 r2 s2 => ?_
  exact g W2 σ H2 (le1.trans le2) ((FrameS.of f1 le1 s1 fun _ h => h).trans le1 f2 le2) r2 s2⟩
/-- o[i], x = e: e a pair -/
def stoN (j : Nat) (me mo mi : Env → M Pm.D) : MS := fun env => bnd (evS me env) fun v => match v with
  | .tpl [a, b] => bnd (mo (str env)) fun o => bnd (mi (str env)) fun i => bnd (sto3 o i a) fun _ => ret (.nx (env.set j (some (.val b))))
  | _ => stuck
theorem ds_stoN {o i e tn : Expr} {j : Nat} {me mo mi : Env → M Pm.D} {p pos pt : Pos} {kt} (he : Dn X e me) (ho : Dn X o mo) (hi : Dn X i mi) (hn : PG X tn (gName j)) (hc : X.calm = true) (hs : swapsWithSole [.Tuple [.Subscript o i p, tn] kt pt] e pos.line X.env = pure false := by rfl) (hw : swappedStores [.Tuple [.Subscript o i p, tn] kt pt] e X.env = pure none := by rfl)
    (h1 : (assignEach [.Tuple [.Subscript o i p, tn] kt pt] X.env).map (·.2) = [assign (.Tuple [.Subscript o i p, tn] kt pt) X.env] := by rfl) (ha : ∀ v, assign (.Subscript o i p) X.env v = (do
      let ov ← holding [v] (eval o X.env)
      let iv ← holding [v, ov] (eval i X.env)
      standAt p
      holding [v, ov, iv] (setItem ov iv v)
      release [v, ov, iv] []) := by intro _; rfl)
    (hg : PG X (.Tuple [.Subscript o i p, tn] kt pt) (gTup X.K 2 (gCons (subG X.K X.mg mo mi) (gCons (gName j) gNil)))) : Ds X (.Assign [.Tuple [.Subscript o i p, tn] kt pt] e pos) (stoN j me mo mi) := ⟨PS.mono (ps_asg he.pe hg hs hw h1) fun D σ H ⟨W, env, S, r, s, fl, S', h, g⟩ => by
  obtain ⟨v, S1, h1, h⟩ := bnd_some h
  refine evS_run r s h1 fun W1 v1 H1 le1 f1 r1 s1 i1 => ?_
  split at h
  · rename_i a b
    obtain ⟨ov, S2, h2, h⟩ := bnd_some h
    obtain ⟨iv, S3, h3, h⟩ := bnd_some h
    obtain ⟨u, S4, h4, h⟩ := bnd_some h
    cases h
    cases i1 with
    | tpl ht it => cases it with
      | cons ia it => cases it with
        | cons ib it =>
          cases it
          refine ⟨_, _, rfl, SqT.up s1 ht, rfl, _, _, rfl, ?_⟩
          refine sto_tg (x := u) (S' := S') r1 s1 ia (by unfold bnd; rw [h2]; simp only; rw [h3]; exact h4) fun W2 H2 le2 f2 r2 s2 => ?_
          refine ⟨_, _, rfl, rfl, ?_⟩
          exact g W2 _ H2 (le1.trans le2) (((FrameS.of f1 le1 s1 fun _ h => h).trans le1 f2 le2).trans (le1.trans le2) (.of (.refl _ _) (.refl _) s2 fun a h => h.setv) (.refl _)) (r2.setv (ib.mono le2)) s2
  · cases h⟩
end
end Pm

set_option Elab.async false
set_option linter.all false
set_option maxRecDepth 100000
set_option maxHeartbeats 600000
/-! Pm10: append, attributes stored, dicts, isinstance, constants of the module. -/
namespace Pm
open PySem PySem.Spec PyProof.Rows L2

section
variable {X : Cx} {K : PySem.W.Frag} {mg : Str → Option Value} {W : Wd} {env e : SEnv} {σ : L2.St} {H H1 : Hp} {S S1 S' : List O} {D : Ends}
/-! ### an own list grows -/
theorem SRel.write {i : Nat} {s0 s1 : Slot} {a : Addr} {u : HO} (r : SRel K mg W env σ H) (hi : env[i]? = some (some s0)) (ho : s0.isOwn = true) (ha : σ[i]? = some (some (.ref a))) (h1 : SlotR K mg W (upd H a u) (.ref a) s1) : SRel K mg W (env.set i (some s1)) σ (upd H a u) := by
  have hl : i < env.length := (List.getElem?_eq_some_iff.mp hi).1
  refine ⟨by rw [List.length_set]; exact r.len, fun j t q => ?_, fun j k t v b hjk q1 o1 q2 o2 q3 q4 => ?_⟩
  · by_cases hj : i = j
    · subst hj
      rw [List.getElem?_set_self hl] at q; cases q
      exact ⟨_, ha, h1⟩
    · rw [List.getElem?_set_ne hj] at q
      obtain ⟨v, e1, e2⟩ := r.ats j t q
      refine ⟨v, e1, ?_⟩
      have ne : t.isOwn = true → v ≠ .ref a := fun o z => r.dj i j s0 t a hj hi ho q o ha (by rw [e1, z])
      cases t with
      | val d => exact e2
      | own ds => obtain ⟨b, vs, rfl, h4, h5⟩ := e2; exact ⟨b, vs, rfl, by rw [upd_ne (fun z => ne rfl (by rw [z]))]; exact h4, h5⟩
      | ownd ks ds => obtain ⟨b, vs, rfl, h4, h5⟩ := e2; exact ⟨b, vs, rfl, by rw [upd_ne (fun z => ne rfl (by rw [z]))]; exact h4, h5⟩
  · have old : ∀ {j : Nat} {t : Slot}, (env.set i (some s1))[j]? = some (some t) → t.isOwn = true → ∃ t', env[j]? = some (some t') ∧ t'.isOwn = true := fun {j t} q o => by
      by_cases hj : i = j
      · subst hj; exact ⟨s0, hi, ho⟩
      · rw [List.getElem?_set_ne hj] at q; exact ⟨t, q, o⟩
    obtain ⟨t', z1, z2⟩ := old q1 o1
    obtain ⟨v', y1, y2⟩ := old q2 o2
    exact r.dj j k t' v' b hjk z1 z2 y1 y2 q3 q4
theorem Ow.write {i : Nat} {s0 s1 : Slot} {b : Addr} (hi : env[i]? = some (some s0)) (ho : s0.isOwn = true) (h : Ow (env.set i (some s1)) σ b) : Ow env σ b := by
  obtain ⟨j, t, q1, q2, q3⟩ := h
  by_cases hj : i = j
  · subst hj; exact ⟨i, s0, hi, ho, q3⟩
  · rw [List.getElem?_set_ne hj] at q1; exact ⟨j, t, q1, q2, q3⟩
theorem own_st {a : Addr} {u : HO} (s : StRel K mg W S H) (z : W.Z a = none) (n : ∀ l, l < W.n → W.r l ≠ a) : StRel K mg W S (upd H a u) :=
  ⟨s.len, fun b o q => by rw [upd_ne (fun y => by rw [y, z] at q; cases q)]; exact s.zh b o q, s.zr, s.inj, fun l o q => (s.ob l o q).mono (.refl _) (by rw [upd_ne (n l (by rw [s.len]; exact (List.getElem?_eq_some_iff.mp q).1))])⟩
theorem own_frame {B : SEnv} {a : Addr} {u : HO} (h : Ow env σ a) (hs : ∀ b, Ow B σ b → Ow env σ b) : FrameS (Ow env σ) (Ow B σ) W W H (upd H a u) :=
  ⟨fun b o q _ hn => by rw [upd_ne (fun y => hn (by rw [y]; exact h))]; exact q, fun l h k => absurd (Nat.lt_of_lt_of_le k h) (Nat.lt_irrefl _), fun b o q => .inl q, fun b h => .inl (hs b h), fun b q => by
    by_cases y : b = a
    · rw [y, upd_same] at q; cases q
    · rw [upd_ne y] at q; exact q⟩
def appM (i : Nat) (me : Env → M Pm.D) : MS := fun env => bnd (evS me env) fun d => match env[i]? with
  | some (some (.own ds)) => if ds.length < sizeLine then ret (.nx (env.set i (some (.own (ds ++ [d]))))) else stuck
  | _ => stuck
theorem ds_app {x : Str} {e : Expr} {me : Env → M Pm.D} {i : Nat} {p apos cpos pos : Pos} (he : Dn X e me) (hN : X.N[i]? = some x := by rfl) (hv : Vis X.env.scope x := by first | exact Or.inl rfl | exact Or.inr (Or.inl rfl) | exact Or.inr (Or.inr rfl)) (hd : (x == ("__debug__" : Str)) = false := by decide)
    (hcd : (x == ("__classdict__" : Str)) = false := by decide) (hbase : attributeBase (.Name x p) "append" X.env (eval (.Name x p) X.env) = eval (.Name x p) X.env := by rfl)
    (hfew : ((backTo cpos (starEach (e :: []) X.env)).all (fun x => !x.1) && (backToKw cpos (keywordEach [] X.env)).all (fun x => x.1.isSome) && decide ((e :: []).length + ([] : List Keyword).length + (if ([] : List Keyword).isEmpty then 0 else 1) < 30)) = true := by rfl)
    (hline : (apos.endLine == cpos.line) = true := by rfl) (hs : starEach (e :: []) X.env = (false, eval e X.env) :: starEach [] X.env := by rfl) (hplain : (backTo cpos (starEach [] X.env)).any (·.1) = false := by rfl)
    (hsw : swapsWith (.Call (.Attribute (.Name x p) "append" apos) [e] [] cpos) none pos.line X.env = pure false := by rfl) : Ds X (.Expr (.Call (.Attribute (.Name x p) "append" apos) [e] [] cpos) pos) (appM i me) :=
  ⟨PS.mono (ps_expr (pe_bm PySem.F.plainAttrs_list PySem.F.slot_list_append PySem.F.type_list_append mt_append (pe_var hN hv hd hcd) (pa_cons he.pe pa_nil hs) hbase hfew hline hs hplain) hsw) fun D σ H ⟨W, env, S, r, s, fl, S', h, g⟩ => by
    obtain ⟨d, S1, h1, h⟩ := bnd_some h
    cases q : env[i]? with
    | none => rw [q] at h; cases h
    | some o => cases o with
      | none => rw [q] at h; cases h
      | some sl => cases sl with
        | val _ => rw [q] at h; cases h
        | ownd _ _ => rw [q] at h; cases h
        | own ds =>
          rw [q] at h
          simp only at h
          split at h
          · rename_i hz
            cases h
            obtain ⟨v, e1, a, vs, rfl, h4, h5, h6, h7⟩ := r.ats i _ q
            refine ⟨_, e1, .inl ⟨rfl, _, .inl (.inl h4)⟩, evS_run r s h1 fun W1 v1 H1 le f r1 s1 i1 => ?_⟩
            obtain ⟨v', e1', a', vs', rfl, k4, k5, k6, k7⟩ := r1.ats i _ q
            rw [e1] at e1'; cases e1'
            refine ⟨_, vs', v1, rfl, rfl, k4, by rw [k5.length]; exact hz, ?_⟩
            have how : Ow env σ a := ⟨i, _, q, rfl, e1⟩
            refine g W1 σ _ le ((FrameS.of f le s1 fun _ h => h).trans le (own_frame how fun b hb => hb.write q rfl) (.refl _)) (r1.write q rfl e1 ⟨a, _, rfl, upd_same, k5.append (.cons i1 .nil), k6, k7⟩) (own_st s1 k6 k7)
          · cases h⟩

/-! ### an attribute is stored -/
def putG {α : Type} (f : Str) (v : α) : List (Str × α) → List (Str × α)
  | [] => [(f, v)]
  | (g, x) :: r => if g = f then (g, v) :: r else (g, x) :: putG f v r
theorem putF_names (f : Str) (v : V) (d : Pm.D) : ∀ (fs : List (Str × V)) (ds : List Pm.D), fs.length = ds.length → (putF f v fs).map (·.1) = (putG f d ((fs.map (·.1)).zip ds)).map (·.1)
  | [], [], _ => rfl
  | (g, x) :: r, y :: ds, h => by
    simp only [putF, List.map_cons, List.zip_cons_cons, putG]
    split
    · simp only [List.map_cons]
      congr 1
      have hl : r.length = ds.length := Nat.succ.inj h
      have : ∀ (r : List (Str × V)) (ds : List Pm.D), r.length = ds.length → r.map (·.1) = ((r.map (·.1)).zip ds).map (·.1) := fun r => by
        induction r with
        | nil => intro ds h; cases ds with
          | nil => rfl
          | cons _ _ => cases h
        | cons p r ih => intro ds h; cases ds with
          | nil => cases h
          | cons d ds => simp only [List.map_cons, List.zip_cons_cons, ← ih ds (Nat.succ.inj h)]
      exact this r ds hl
    · simp only [List.map_cons]
      congr 1
      exact putF_names f v d r ds (Nat.succ.inj h)
theorem putF_is {f : Str} {v : V} {d : Pm.D} (hv : IsV K mg W v d) : ∀ {fs : List (Str × V)} {ds : List Pm.D}, IsVs K mg W (fs.map (·.2)) ds → IsVs K mg W ((putF f v fs).map (·.2)) ((putG f d ((fs.map (·.1)).zip ds)).map (·.2))
  | [], _, .nil => .cons hv .nil
  | (g, x) :: r, y :: ds, .cons a b => by
    have zs : ∀ (r : List (Str × V)) (ds : List Pm.D), r.length = ds.length → ((r.map (·.1)).zip ds).map (·.2) = ds := fun r => by
      induction r with
      | nil => intro ds h; cases ds with
        | nil => rfl
        | cons _ _ => cases h
      | cons p r ih => intro ds h; cases ds with
        | nil => cases h
        | cons d ds => simp only [List.map_cons, List.zip_cons_cons, ih ds (Nat.succ.inj h)]
    simp only [putF, List.map_cons, List.zip_cons_cons, putG]
    split
    · simp only [List.map_cons]
      refine .cons hv ?_
      rw [zs r ds (by have := b.length; rw [List.length_map] at this; exact this)]
      exact b
    · exact .cons a (putF_is hv b)
def fstoD (c f : Str) (o v : Pm.D) : M Unit := fun S => match o with
  | .ref l => match S[l]? with
    | some (.ins c' ns ds) => if c' = c ∧ v.pure = true ∧ ns.length < 1000 then some ((), S.set l (.ins c ((putG f v (ns.zip ds)).map (·.1)) ((putG f v (ns.zip ds)).map (·.2)))) else none
    | _ => none
  | _ => none
theorem pures_put {f : Str} {v : Pm.D} (hv : v.pure = true) : ∀ {l : List (Str × Pm.D)}, Pm.D.pures (l.map (·.2)) = true → Pm.D.pures ((putG f v l).map (·.2)) = true
  | [], _ => by simp [putG, Pm.D.pures, hv]
  | (g, x) :: r, h => by
    simp only [List.map_cons, Pm.D.pures, Bool.and_eq_true] at h
    unfold putG
    split
    · simp [Pm.D.pures, hv, h.2]
    · simp [Pm.D.pures, h.1, pures_put hv h.2]
def fstoM (c f : Str) (me mo : Env → M Pm.D) : MS := fun env => bnd (evS me env) fun v => bnd (mo (str env)) fun o => bnd (fstoD c f o v) fun _ => ret (.nx env)
theorem ds_fld (c : Str) {f : Str} {o e : Expr} {me mo : Env → M Pm.D} {pos pos' : Pos} (hc : Att X c f) (he : Dn X e me) (ho : Dn X o mo) (hs : swapsWith e (some (.Attribute o f pos')) pos.line X.env = pure false := by rfl) : Ds X (.Assign [.Attribute o f pos'] e pos) (fstoM c f me mo) := ⟨PS.mono (ps_fld ho.pe he.pe hs) fun D σ H ⟨W, env, S, r, s, fl, S', h, g⟩ => by
  obtain ⟨v, S1, h1, h⟩ := bnd_some h
  obtain ⟨ov, S2, h2, h⟩ := bnd_some h
  obtain ⟨u, S3, h3, h⟩ := bnd_some h
  cases h
  refine evS_run r s h1 fun W1 v1 H1 le1 f1 r1 s1 i1 => ?_
  refine ⟨W1, str env, S1, r1.strict, s1, ov, S2, h2, fun W2 v2 H2 le2 f2 s2 i2 => ?_⟩
  have key : ∃ l ns ds, ov = .ref l ∧ S2[l]? = some (.ins c ns ds) ∧ v.pure = true ∧ ns.length < 1000 ∧ S' = S2.set l (.ins c ((putG f v (ns.zip ds)).map (·.1)) ((putG f v (ns.zip ds)).map (·.2))) := by
    cases ov with
    | ref l =>
      simp only [fstoD] at h3
      cases q : S2[l]? with
      | none => rw [q] at h3; cases h3
      | some o => cases o with
        | lst ds => rw [q] at h3; cases h3
        | tab x => rw [q] at h3; cases h3
        | dic ks ds => rw [q] at h3; cases h3
        | tic b => rw [q] at h3; cases h3
        | ins c' ns ds =>
          rw [q] at h3
          simp only at h3
          split at h3
          · rename_i hh
            obtain ⟨rfl, a1, a2⟩ := hh
            cases h3
            exact ⟨l, ns, ds, rfl, q, a1, a2, rfl⟩
          · cases h3
    | _ => simp [fstoD] at h3
  obtain ⟨l, ns, ds, rfl, q, hp, hn, rfl⟩ := key
  cases i2 with
  | ref hl =>
    obtain ⟨C, dx, fs, o1, o2, o3, o4, o5⟩ := s2.ob l _ q
    subst o3
    obtain ⟨k1, k2⟩ := hc _ o2
    refine ⟨_, _, _, fs, rfl, o1, k1, k2, by rw [List.length_map] at hn; exact hn, ?_⟩
    have hlen : fs.length = ds.length := by have := o4.length; rw [List.length_map] at this; exact this
    have st := sto_st (u := .ins C dx (putF f v1 fs)) (o := .ins c ((putG f v ((fs.map (·.1)).zip ds)).map (·.1)) ((putG f v ((fs.map (·.1)).zip ds)).map (·.2))) s2 hl ⟨C, dx, _, upd_same, o2, (putF_names f v1 v fs ds hlen).symm, putF_is (i1.mono le2) o4, pures_put hp (by
      have : ((fs.map (·.1)).zip ds).map (·.2) = ds := by rw [← List.unzip_snd, List.unzip_zip (by rw [List.length_map]; exact hlen)]
      rw [this]; exact o5)⟩
    have ff := f2.trans s1 s2 le2 (sto_frame (u := .ins C dx (putF f v1 fs)) s2 hl) (.refl _)
    have fr := f1.trans s s1 le1 ff le2
    exact g W2 σ _ (le1.trans le2) (.of fr (le1.trans le2) st fun _ h => h) (r.step (le1.trans le2) fr) st⟩

/-! ### dicts -/
def D.key : Pm.D → Option Key
  | .int i => some (.inl i)
  | .str s => some (.inr s)
  | _ => none
theorem IsV.key {v : V} {d : Pm.D} {k : Key} (i : IsV K mg W v d) (h : Pm.D.key d = some k) : v = kV k := by
  cases i <;> simp only [Pm.D.key, reduceCtorEq, Option.some.injEq] at h <;> subst h <;> rfl
def lookK (k : Key) (l : List (Key × Pm.D)) : Option Pm.D := (l.find? fun p => decide (p.1 = k)).map (·.2)
def dgetD (x y : Pm.D) : M Pm.D := match x, Pm.D.key y with
  | .dct ks ds, some k => lift (lookK k (ks.zip ds))
  | .ref l, some k => fun S => match S[l]? with
    | some (.dic ks ds) => lift (lookK k (ks.zip ds)) S
    | _ => none
  | _, _ => stuck
theorem valV_is {k : Key} {d : Pm.D} : ∀ {kvs : List (Key × V)} {ds : List Pm.D}, IsVs K mg W (kvs.map (·.2)) ds → lookK k ((kvs.map (·.1)).zip ds) = some d → ∃ v, valV kvs k = some v ∧ IsV K mg W v d
  | [], _, _, e => by simp [lookK] at e
  | (n, v) :: r, d0 :: ds, .cons i1 i2, e => by
    unfold lookK at e
    simp only [List.map_cons, List.zip_cons_cons, List.find?_cons] at e
    unfold valV
    rw [List.find?_cons]
    by_cases q : n = k
    · rw [decide_eq_true q] at e ⊢
      cases e
      exact ⟨v, rfl, i1⟩
    · rw [decide_eq_false q] at e ⊢
      exact valV_is (kvs := r) i2 e
theorem dn_dget {o i : Expr} {mo mi : Env → M Pm.D} {pos : Pos} (hu : X.A.units + 1 < cLine) (ho : Dn X o mo) (hi : Dn X i mi) (hs : NoSl i) : Dn X (.Subscript o i pos) (bin dgetD mo mi) := ⟨PE.mono (pe_dget hu ho.pe hi.pe hs) fun σ H Q ⟨W, env, S, e, s, d, S', h, g⟩ => by
  obtain ⟨x, S1, h1, h⟩ := bnd_some h
  obtain ⟨y, S2, h2, h⟩ := bnd_some h
  refine ⟨W, env, S, e, s, x, S1, h1, fun W1 v1 H1 le1 f1 s1 i1 => ?_⟩
  refine ⟨W1, env, S1, e.mono le1, s1, y, S2, h2, fun W2 v2 H2 le2 f2 s2 i2 => ?_⟩
  have key : ∃ ks ds k, (x = .dct ks ds ∨ ∃ l, x = .ref l ∧ S2[l]? = some (.dic ks ds)) ∧ Pm.D.key y = some k ∧ lookK k (ks.zip ds) = some d ∧ S' = S2 := by
    cases x with
    | dct ks ds =>
      cases q : Pm.D.key y with
      | none => simp [dgetD, q, stuck] at h
      | some k =>
        simp only [dgetD, q] at h
        have ⟨q1, e0⟩ := lift_some h
        exact ⟨ks, ds, k, .inl rfl, rfl, q1, e0⟩
    | ref l =>
      cases q : Pm.D.key y with
      | none => simp [dgetD, q, stuck] at h
      | some k =>
        simp only [dgetD, q] at h
        cases q2 : S2[l]? with
        | none => rw [q2] at h; cases h
        | some o => cases o with
          | dic ks ds =>
            rw [q2] at h
            have ⟨q1, e0⟩ := lift_some h
            exact ⟨ks, ds, k, .inr ⟨l, rfl, q2⟩, rfl, q1, e0⟩
          | _ => rw [q2] at h; cases h
    | _ => simp [dgetD, stuck] at h
  obtain ⟨ks, ds, k, hx, hk, hl, rfl⟩ := key
  rcases hx with rfl | ⟨l, rfl, q2⟩
  rotate_left
  · cases i1 with
    | ref hln =>
      have z := i2.key hk
      subst z
      obtain ⟨kvs, hz, he, hv, hp⟩ := s2.ob l _ q2
      subst he
      obtain ⟨v, e1, e2⟩ := valV_is hv hl
      rw [← le2.r l hln]
      exact ⟨_, v, rfl, by rw [← e1]; exact DGet.k hz, ((g.step s le1 f1 s1).step s1 le2 f2 s2).here s2 e2⟩
  cases i1 with
  | dct hz he hv =>
    subst he
    obtain ⟨v, e1, e2⟩ := valV_is hv hl
    have z := i2.key hk
    subst z
    exact ⟨_, v, rfl, by rw [← e1]; exact DGet.k (s2.zh _ _ (le2.z _ _ hz)), ((g.step s le1 f1 s1).step s1 le2 f2 s2).here s2 (e2.mono le2)⟩⟩
/-! a display -/
def tPs (K : PySem.W.Frag) (mg : Str → Option Value) (m : Env → M (List (Pm.D × Pm.D))) : L2.St → Hp → (List (V × V) → Hp → Prop) → Prop := fun σ H Q =>
  ∃ (W : Wd) (env : Env) (S : List O), ERel K mg W env σ ∧ StRel K mg W S H ∧ ∃ ds S', m env S = some (ds, S') ∧ ∀ W' ps H', W.le W' → Frame W W' H H' → StRel K mg W' S' H' → IsVs K mg W' (ps.map (·.1)) (ds.map (·.1)) → IsVs K mg W' (ps.map (·.2)) (ds.map (·.2)) → Q ps H'
structure DnPs (X : Cx) (pos : Pos) (keys : List (Option Expr)) (values : List Expr) (m : Env → M (List (Pm.D × Pm.D))) : Prop where
  ex : ∃ trs, PPs X pos keys values trs ∧ ∀ σ H Q, tPs X.K X.mg m σ H Q → tPairs trs σ H Q
theorem dps_nil {pos : Pos} : DnPs X pos [] [] (fun _ => ret []) := ⟨[], pps_nil, fun σ H Q ⟨W, env, S, e, s, d, S', h, g⟩ => by
  cases h; exact g W [] H (.refl _) (.refl _ _) s .nil .nil⟩
theorem dps_cons {pos : Pos} {k v : Expr} {ks : List (Option Expr)} {vs : List Expr} {mk mv : Env → M Pm.D} {m : Env → M (List (Pm.D × Pm.D))} (hk : Dn X k mk) (hv : Dn X v mv) (hr : DnPs X pos ks vs m) :
    DnPs X pos (some k :: ks) (v :: vs) (fun env => bnd (mk env) fun x => bnd (mv env) fun y => bnd (m env) fun r => ret ((x, y) :: r)) := by
  obtain ⟨trs, h1, h2⟩ := hr.ex
  refine ⟨_, pps_cons hk.pe hv.pe h1, fun σ H Q ⟨W, env, S, e, s, d, S', h, g⟩ => ?_⟩
  obtain ⟨x, S1, hx, h⟩ := bnd_some h
  obtain ⟨y, S2, hy, h⟩ := bnd_some h
  obtain ⟨rr, S3, hr, h⟩ := bnd_some h
  cases h
  refine ⟨W, env, S, e, s, x, S1, hx, fun W1 v1 H1 le1 f1 s1 i1 => ?_⟩
  refine ⟨W1, env, S1, e.mono le1, s1, y, S2, hy, fun W2 v2 H2 le2 f2 s2 i2 => ?_⟩
  refine h2 σ H2 _ ⟨W2, env, S2, (e.mono le1).mono le2, s2, rr, _, hr, fun W3 ps H3 le3 f3 s3 j1 j2 => ?_⟩
  exact g W3 _ H3 ((le1.trans le2).trans le3) ((f1.trans s s1 le1 f2 le2).trans s s2 (le1.trans le2) f3 le3) s3 (.cons ((i1.mono le2).mono le3) j1) (.cons (i2.mono le3) j2)
def D.keys : List Pm.D → Option (List Key)
  | [] => some []
  | d :: ds => match Pm.D.key d, Pm.D.keys ds with
    | some k, some ks => some (k :: ks)
    | _, _ => none
def dispD (ps : List (Pm.D × Pm.D)) : M Pm.D := match Pm.D.keys (ps.map (·.1)) with
  | some ks => if ks.Nodup ∧ ks.length ≤ 15 then ret (.dct ks (ps.map (·.2))) else stuck
  | none => stuck
theorem keys_is : ∀ {vs : List V} {ds : List Pm.D} {ks : List Key}, IsVs K mg W vs ds → Pm.D.keys ds = some ks → vs = ks.map kV
  | _, _, _, .nil, h => by simp only [Pm.D.keys, Option.some.injEq] at h; subst h; rfl
  | _, d :: ds, ks, .cons a b, h => by
    simp only [Pm.D.keys] at h
    cases q : Pm.D.key d with
    | none => rw [q] at h; cases h
    | some k =>
      cases q2 : Pm.D.keys ds with
      | none => rw [q, q2] at h; cases h
      | some ks => rw [q, q2] at h; cases h; rw [a.key q, keys_is b q2]; rfl
theorem mergeK_nodup : ∀ (l acc : List (Key × V)), ((acc ++ l).map (·.1)).Nodup → mergeK acc l = acc ++ l
  | [], acc, _ => by rw [List.append_nil]; rfl
  | p :: l, acc, h => by
    show mergeK (putK acc p.1 p.2) l = _
    have hn : (acc.any fun kv => decide (kv.1 = p.1)) = false := by
      rw [List.any_eq_false]
      intro kv hm z
      rw [List.map_append, List.nodup_append] at h
      exact h.2.2 kv.1 (List.mem_map_of_mem hm) p.1 (List.mem_map_of_mem List.mem_cons_self) (of_decide_eq_true z)
    have e1 : putK acc p.1 p.2 = acc ++ [p] := by
      unfold putK
      rw [hn, if_neg Bool.false_ne_true]
    rw [e1, mergeK_nodup l (acc ++ [p]) (by rw [List.append_assoc]; exact h), List.append_assoc]
    rfl
theorem dn_disp {pos : Pos} {keys : List (Option Expr)} {values : List Expr} {m : Env → M (List (Pm.D × Pm.D))} (h : DnPs X pos keys values m) (hall : keys.all (·.isSome) = true := by rfl) (hl : keys.length = values.length := by rfl) (h0 : keys ≠ [] := by exact List.cons_ne_nil _ _)
    (h15 : keys.length ≤ 15 := by decide) : Dn X (.Dict keys values pos) (fun env => bnd (m env) dispD) := by
  obtain ⟨trs, h1, h2⟩ := h.ex
  refine ⟨PE.mono (pe_disp h1 hall hl h0 h15) fun σ H Q ⟨W, env, S, e, s, d, S', hh, g⟩ p hp => ?_⟩
  obtain ⟨ps, S1, hx, hd⟩ := bnd_some hh
  have st : StRel X.K X.mg W S (upd H p (.dK [])) := ⟨s.len, fun a o e => by rw [upd_ne (ne_of_none (s.zh _ _ e) hp)]; exact s.zh _ _ e, s.zr, s.inj, fun l o e => (s.ob l o e).mono (.refl _) (by rw [upd_ne (s.ne hp (by rw [s.len]; exact (List.getElem?_eq_some_iff.mp e).1))])⟩
  have zp : W.Z p = none := by
    cases q : W.Z p with
    | none => rfl
    | some u => rw [s.zh _ _ q] at hp; cases hp
  refine h2 σ _ _ ⟨W, env, S, e, st, ps, S1, hx, fun W1 qs H1 le1 f1 s1 j1 j2 => ?_⟩
  have hp1 : H1 p = some (.dK []) := f1.kp p _ upd_same fun l hl => s.ne hp hl
  refine ⟨hp1, ?_⟩
  cases q : Pm.D.keys (ps.map (·.1)) with
  | none => simp [dispD, q, stuck] at hd
  | some ks =>
    simp only [dispD, q] at hd
    split at hd
    · rename_i hc
      cases hd
      have ek := keys_is j1 q
      have hlen : ks.length = qs.length := by have := congrArg List.length ek; rw [List.length_map, List.length_map] at this; exact this.symm
      have e1 : qs = (ks.zip (qs.map (·.2))).map (fun kv => (kV kv.1, kv.2)) := by
        apply List.ext_getElem?
        intro i
        rw [List.getElem?_map]
        by_cases hi : i < qs.length
        · have hk : i < ks.length := by omega
          have hz : (ks.zip (qs.map (·.2)))[i]? = some (ks[i], qs[i].2) := by
            rw [List.getElem?_zip_eq_some]
            exact ⟨List.getElem?_eq_getElem hk, by rw [List.getElem?_map, List.getElem?_eq_getElem hi]; rfl⟩
          rw [hz, List.getElem?_eq_getElem hi]
          have := congrArg (fun l => l[i]?) ek
          simp only [List.getElem?_map, List.getElem?_eq_getElem hi, List.getElem?_eq_getElem hk, Option.map_some, Option.some.injEq] at this
          show some qs[i] = some (kV ks[i], qs[i].2)
          rw [← this]
        · rw [List.getElem?_eq_none (by omega), List.getElem?_eq_none (by rw [List.length_zip]; omega)]; rfl
      have m1 : ((ks.zip (qs.map (·.2))).map (·.1)) = ks := by rw [← List.unzip_fst, List.unzip_zip (by rw [List.length_map]; exact hlen)]
      have m2 : ((ks.zip (qs.map (·.2))).map (·.2)) = qs.map (·.2) := by rw [← List.unzip_snd, List.unzip_zip (by rw [List.length_map]; exact hlen)]
      refine ⟨ks.zip (qs.map (·.2)), e1, by rw [List.length_zip]; omega, ?_⟩
      rw [mergeK_nodup _ [] (by rw [List.nil_append, m1]; exact hc.1), List.nil_append]
      have r1 : ∀ l, l < W1.n → W1.r l ≠ p := fun l hl z => by
        by_cases hn : l < W.n
        · exact s.ne hp hn (by rw [← le1.r l hn]; exact z)
        · have := f1.fr l (Nat.le_of_not_lt hn) hl
          rw [z, upd_same] at this; cases this
      have z1 : W1.Z p = none := by
        cases q : W1.Z p with
        | none => rfl
        | some u =>
          rcases f1.fz p u q with y | y
          · rw [zp] at y; cases y
          · rw [upd_same] at y; cases y
      let o : HO := .dK (ks.zip (qs.map (·.2)))
      have le2 : W1.le (W1.add p o) := ⟨fun a u e => by
        show upd W1.Z p o a = _
        rw [upd_ne (fun y => by rw [y, z1] at e; cases e)]; exact e, Nat.le_refl _, fun _ _ => rfl⟩
      refine g (W1.add p o) (.ref p) _ (le1.trans le2) ⟨fun a u e hr => ?_, fun l h1 h2 => ?_, fun a u e => ?_⟩ ⟨s1.len, fun a u e => ?_, fun l hl => ?_, s1.inj, fun l u e => ?_⟩ (.dct (by show upd _ _ _ _ = _; exact upd_same) m1.symm (by rw [m2]; exact j2.mono le2))
      · rw [upd_ne (ne_of_none e hp)]
        exact f1.kp a u (by rw [upd_ne (ne_of_none e hp)]; exact e) hr
      · have := f1.fr l h1 h2
        by_cases y : W1.r l = p
        · rw [y, upd_same] at this; cases this
        · rw [upd_ne y] at this; exact this
      · have e : upd W1.Z p o a = some u := e
        by_cases y : a = p
        · rw [y]; exact .inr hp
        · rw [upd_ne y] at e
          rcases f1.fz a u e with z | z
          · exact .inl z
          · rw [upd_ne y] at z; exact .inr z
      · have e : upd W1.Z p o a = some u := e
        by_cases y : a = p
        · rw [y, upd_same] at e; rw [y, upd_same]; exact e
        · rw [upd_ne y] at e ⊢; exact s1.zh a u e
      · show upd W1.Z p o (W1.r l) = none
        rw [upd_ne (r1 l hl)]; exact s1.zr l hl
      · exact (s1.ob l u e).mono le2 (by rw [upd_ne (r1 l (by rw [s1.len]; exact (List.getElem?_eq_some_iff.mp e).1))])
    · cases hd
end
end Pm

set_option Elab.async false
set_option linter.all false
set_option maxRecDepth 100000
set_option maxHeartbeats 600000
/-! Pm11: isinstance, constants, +=, freezing, comprehensions of two clauses. -/
namespace Pm
open PySem PySem.Spec PyProof.Rows L2

section
variable {X : Cx} {K : PySem.W.Frag} {mg : Str → Option Value} {W : Wd} {env e : SEnv} {σ : L2.St} {H H1 : Hp} {S S1 S' : List O} {D : Ends}
/-! ### isinstance -/
def tyName : Pm.D → Option String
  | .non => some "NoneType"
  | .bl _ => some "bool"
  | .int _ => some "int"
  | .str _ => some "str"
  | .tup _ => some "tuple"
  | .tpl _ => some "tuple"
  | .lst _ => some "list"
  | .scr _ => some "list"
  | .dct _ _ => some "dict"
  | _ => none
theorem IsV.tyx {v : V} {d : Pm.D} {t : String} (s : StRel K mg W S H) (i : IsV K mg W v d) (h : tyName d = some t) : TyX K H v (.type t) := by
  cases i <;> simp only [tyName, Option.some.injEq, reduceCtorEq] at h <;> subst h
  · exact .base .non
  · exact .base (.bl _)
  · exact .base (.int _)
  · exact .base (.str _)
  · rename_i a b
    rcases TupX.up s a with (z | ⟨o, z⟩) | ⟨o, its, n, z, c, _⟩
    · exact .base (.tup z)
    · exact .fTuple z
    · exact .kTuple z c
  · rename_i a b
    rcases SqT.up s a with (z | ⟨o, z⟩) | ⟨o, its, n, z, c, _⟩
    · exact .base (.tup z)
    · exact .fTuple z
    · exact .kTuple z c
  · rename_i a b; exact .base (.lst (s.zh _ _ a))
  · rename_i a
    rcases a with ⟨o, a⟩ | ⟨o, its, n, z, c, _⟩
    · exact .base (.frz (s.zh _ _ a))
    · exact .kList z c
  · rename_i a _ _; exact .base (.dK (s.zh _ _ a))
def isiB (T : String) (d : Pm.D) : M Pm.D := match tyName d with
  | some t => match kitB t T with
    | some b => ret (.bl b)
    | none => stuck
  | none => stuck
theorem dn_isiB {T : String} {a : Expr} {tn : Str} {ma : Env → M Pm.D} {p p2 pos : Pos} (ha : Dn X a ma) (hm : X.mg "isinstance" = none) (hmt : X.mg tn = none) (hv : bootBuiltins tn = some (.type T)) (hv2 : bootBuiltins "isinstance" = some (.builtin "isinstance") := by decide +kernel) (hg : Gl X "isinstance" := by rfl) (hgt : Gl X tn := by rfl)
    (hn : tn ≠ "__name__" := by decide) (hd : (tn == ("__debug__" : Str)) = false := by decide) (h1 : starEach [a, .Name tn p2] X.env = (false, eval a X.env) :: starEach [.Name tn p2] X.env := by rfl) (h2 : starEach [.Name tn p2] X.env = (false, eval (.Name tn p2) X.env) :: starEach [] X.env := by rfl) (hpl : (backTo pos (starEach [.Name tn p2] X.env)).any (·.1) = false := by rfl) :
    Dn X (.Call (.Name "isinstance" p) [a, .Name tn p2] [] pos) (fun env => bnd (ma env) (isiB T)) :=
  ⟨PE.mono (pe_callB call_isi hg hm hv2 (pa_cons ha.pe (pa_cons (pe_bltn (v := .ty T) hgt hmt hv rfl hn hd) pa_nil h2) h1) (he := h1) (hpl := hpl)) fun σ H Q ⟨W, env, S, e, s, d, S', h, g⟩ => by
    obtain ⟨x, S1, h1, h⟩ := bnd_some h
    refine ⟨W, env, S, e, s, x, S1, h1, fun W1 v1 H1 le1 f1 s1 i1 => ?_⟩
    cases q : tyName x with
    | none => simp [isiB, q, stuck] at h
    | some t =>
      cases q2 : kitB t T with
      | none => simp [isiB, q, q2, stuck] at h
      | some b =>
        simp only [isiB, q, q2, ret, Option.some.injEq, Prod.mk.injEq] at h
        obtain ⟨rfl, rfl⟩ := h
        exact ⟨v1, .ty T, .type t, .type T, b, rfl, .ty T, i1.tyx s1 q, kit_ty q2, (g.step s le1 f1 s1).here s1 (.bl _)⟩⟩
/-- what an own class must be for isinstance -/
structure CInst (K : PySem.W.Frag) (C : Addr) : Prop where
  cl : Cls K C
  ha : PySem.W.findIn K (.ref C) "__class__" = some (some (.builtin "object.__class__"))
  hn : PySem.W.specialIn K (.builtin "object.__class__") "__get__" = some (some (.builtin "getset_descriptor.__get__"))
  htk : PySem.W.takesIn K (.builtin "object.__class__") = some true
  hm : PySem.W.mroIn K C (.type "object") = some true
  me : PySem.W.kitOne K (.ref C) (.ref C) = some true
  no : ∀ t ∈ ["NoneType", "bool", "int", "str", "tuple", "list", "dict"], PySem.W.kitOne K (.type t) (.ref C) = some false
theorem tyName_mem {d : Pm.D} {t : String} (h : tyName d = some t) : t ∈ ["NoneType", "bool", "int", "str", "tuple", "list", "dict"] := by
  cases d <;> simp only [tyName, Option.some.injEq, reduceCtorEq] at h <;> subst h <;> decide
def isiC (c : Str) (d : Pm.D) : M Pm.D := match d with
  | .obj c' _ _ => if c' = c then ret (.bl true) else stuck
  | d => match tyName d with
    | some _ => ret (.bl false)
    | none => stuck
theorem dn_isiC {c : Str} {C : Addr} {a : Expr} {ma : Env → M Pm.D} {p p2 pos : Pos} (ha : Dn X a ma) (hm : X.mg "isinstance" = none) (hC : X.mg c = some (.ref C)) (hI : CInst X.K C) (hv2 : bootBuiltins "isinstance" = some (.builtin "isinstance") := by decide +kernel) (hg : Gl X "isinstance" := by rfl) (hgt : Gl X c := by rfl)
    (hd : (c == ("__debug__" : Str)) = false := by decide) (h1 : starEach [a, .Name c p2] X.env = (false, eval a X.env) :: starEach [.Name c p2] X.env := by rfl) (h2 : starEach [.Name c p2] X.env = (false, eval (.Name c p2) X.env) :: starEach [] X.env := by rfl) (hpl : (backTo pos (starEach [.Name c p2] X.env)).any (·.1) = false := by rfl) :
    Dn X (.Call (.Name "isinstance" p) [a, .Name c p2] [] pos) (fun env => bnd (ma env) (isiC c)) :=
  ⟨PE.mono (pe_callB call_isi hg hm hv2 (pa_cons ha.pe (pa_cons (pe_glob (v := .ref C) hgt hC rfl hd) pa_nil h2) h1) (he := h1) (hpl := hpl)) fun σ H Q ⟨W, env, S, e, s, d, S', h, g⟩ => by
    obtain ⟨x, S1, h1, h⟩ := bnd_some h
    refine ⟨W, env, S, e, s, x, S1, h1, fun W1 v1 H1 le1 f1 s1 i1 => ?_⟩
    have g1 := g.step s le1 f1 s1
    have other : ∀ t, tyName x = some t → isiC c x S1 = some (d, S') → (∀ c' ns ds, x ≠ .obj c' ns ds) → rIsi X.K [v1, .ref C] H1 Q := fun t q h hno => by
      have h2 : isiC c x = ret (.bl false) := by
        cases x <;> first | exact absurd rfl (hno _ _ _) | (simp only [isiC, tyName]; done) | (simp [tyName] at q)
      rw [h2] at h
      cases h
      exact ⟨v1, .ref C, .type t, .ref C, false, rfl, .own C, i1.tyx s1 q, hI.no t (tyName_mem q), g1.here s1 (.bl _)⟩
    cases q : tyName x with
    | some t => exact other t q h (fun c' ns ds z => by rw [z] at q; simp [tyName] at q)
    | none =>
      cases x with
      | obj c' ns ds =>
        simp only [isiC] at h
        split at h
        · rename_i hcc
          simp only [ret, Option.some.injEq, Prod.mk.injEq] at h
          obtain ⟨rfl, rfl⟩ := h
          cases i1 with
          | obj hz hmC hn hv =>
            rw [hcc] at hmC
            rw [hC] at hmC; cases hmC
            exact ⟨_, .ref C, .ref C, .ref C, true, rfl, .own C, .base (.ins (s1.zh _ _ hz) hI.cl hI.ha hI.hn hI.htk hI.hm), hI.me, g1.here s1 (.bl _)⟩
        · cases h
      | ref l => simp [isiC, tyName, stuck] at h
      | fn _ _ _ _ _ => simp [isiC, tyName, stuck] at h
      | _ => simp [tyName] at q⟩
/-- a constant of the module -/
theorem dn_glob {x : Str} {v : V} {u : Value} {d : Pm.D} {pos : Pos} (hm : X.mg x = some u) (r : RelV v u) (hv : ∀ W, IsV X.K X.mg W v d) (hg : Gl X x := by rfl) (hd : (x == ("__debug__" : Str)) = false := by decide) : Dn X (.Name x pos) (fun _ => ret d) := ⟨PE.mono (pe_glob hg hm r hd) fun σ H Q ⟨W, env, S, e, s, d, S', h, g⟩ => by
  cases h
  exact g.here s (hv W)⟩
/-- a tuple of ints that the module's top has written -/
theorem isV_ktup {a : Addr} {o : Obj} {its : Array Value} {n : Nat} {ns : List Int} (hk : K.lookup a = some o) (hc : o.cls = .type "tuple") (hd : o.dict = none) (hs : o.data = .seq its n) (hz : its.size ≤ sizeLine) (hv : Vals (ns.map V.int) its.toList) : IsV K mg W (.ref a) (.tup (ns.map Pm.D.int)) :=
  .tup (.inr ⟨o, its, n, hk, hc, hd, hs, hz, hv⟩) (IsVs.of_ints ns)
/-! ### x += e -/
def augM (i : Nat) (me : Env → M Pm.D) : MS := fun env => bnd (evS me env) fun d => match env[i]?, d with
  | some (some (.val (.int a))), .int b => ret (.nx (env.set i (some (.val (.int (a + b))))))
  | _, _ => stuck
theorem ds_aug {i : Nat} {x : Str} {e : Expr} {me : Env → M Pm.D} {pos pos' : Pos} (hN : X.N.Nodup) (hx : Loc X.env.scope x) (he : Dn X e me) (hi : X.N[i]? = some x := by rfl) (hf : X.fn x = true ∨ X.env.scope.names.lookup x = some .local := by first | exact .inl rfl | exact .inr rfl | assumption) :
    Ds X (.AugAssign (.Name x pos') .Add e pos) (augM i me) := ⟨PS.mono (ps_aug hN hi hx he.pe ip_add hf) fun D σ H ⟨W, env, S, r, s, fl, S', h, g⟩ => by
  obtain ⟨d, S1, h1, h⟩ := bnd_some h
  have key : ∃ a b, env[i]? = some (some (.val (.int a))) ∧ d = .int b ∧ fl = .nx (env.set i (some (.val (.int (a + b))))) ∧ S' = S1 := by
    cases q : env[i]? with
    | none => rw [q] at h; cases h
    | some o => cases o with
      | none => rw [q] at h; cases h
      | some sl => cases sl with
        | own _ => rw [q] at h; cases h
        | ownd _ _ => rw [q] at h; cases h
        | val v => cases v with
          | int a => cases d with
            | int b => rw [q] at h; cases h; exact ⟨a, b, rfl, rfl, rfl, rfl⟩
            | _ => rw [q] at h; cases h
          | _ => rw [q] at h; cases h
  obtain ⟨a, b, q, rfl, rfl, rfl⟩ := key
  obtain ⟨v, e1, e2⟩ := r.ats i _ q
  have e2 : IsV X.K X.mg W v (.int a) := e2
  cases e2
  refine ⟨_, e1, evS_run r s h1 fun W1 v1 H1 le f r1 s1 i1 => ?_⟩
  cases i1
  exact ⟨a, b, rfl, rfl, Nx.set g le f r1 s1 (.int _) r fun _ o => by cases o⟩⟩
/-! ### an own one becomes a value -/
def frzM (i : Nat) (m : MS) : MS := fun env => match env[i]? with
  | some (some (.own ds)) => m (env.set i (some (.val (.lst ds))))
  | some (some (.ownd ks ds)) => m (env.set i (some (.val (.dct ks ds))))
  | _ => m env
theorem SRel.frz {i : Nat} {s0 : Slot} {a : Addr} {o : HO} {d : Pm.D} (r : SRel K mg W env σ H) (s : StRel K mg W S H) (hi : env[i]? = some (some s0)) (ho : s0.isOwn = true) (ha : σ[i]? = some (some (.ref a))) (hH : H a = some o) (z : W.Z a = none) (n : ∀ l, l < W.n → W.r l ≠ a) (hd : IsV K mg (W.add a o) (.ref a) d) :
    SRel K mg (W.add a o) (env.set i (some (.val d))) σ H ∧ FrameS (Ow env σ) (Ow (env.set i (some (.val d))) σ) W (W.add a o) H H := by
  have le := (s.freeze hH z n).1
  have hl : i < env.length := (List.getElem?_eq_some_iff.mp hi).1
  have nv : ∀ j t, (env.set i (some (Slot.val d)))[j]? = some (some t) → t.isOwn = true → i ≠ j ∧ env[j]? = some (some t) := fun j t q o2 => by
    by_cases hj : i = j
    · subst hj; rw [List.getElem?_set_self hl] at q; cases q; cases o2
    · rw [List.getElem?_set_ne hj] at q; exact ⟨hj, q⟩
  refine ⟨⟨by rw [List.length_set]; exact r.len, fun j t q => ?_, fun j k t u b hjk q1 o1 q2 o2 q3 q4 => r.dj j k t u b hjk (nv j t q1 o1).2 o1 (nv k u q2 o2).2 o2 q3 q4⟩, fun b u e _ _ => e, fun l h k => absurd (Nat.lt_of_lt_of_le k h) (Nat.lt_irrefl _), fun b u e => ?_, fun b ⟨j, t, q1, q2, q3⟩ => .inl ⟨j, t, (nv j t q1 q2).2, q2, q3⟩, fun _ h => h⟩
  · by_cases hj : i = j
    · subst hj
      rw [List.getElem?_set_self hl] at q; cases q
      exact ⟨_, ha, hd⟩
    · rw [List.getElem?_set_ne hj] at q
      obtain ⟨v, e1, e2⟩ := r.ats j t q
      refine ⟨v, e1, ?_⟩
      have ne : t.isOwn = true → v ≠ .ref a := fun o3 y => r.dj i j s0 t a hj hi ho q o3 ha (by rw [e1, y])
      cases t with
      | val d' => exact IsV.mono le e2
      | own ds => obtain ⟨b, vs, rfl, h4, h5, h6, h7⟩ := e2; exact ⟨b, vs, rfl, h4, h5.mono le, by show upd _ _ _ b = none; rw [upd_ne (fun y => ne rfl (by rw [y]))]; exact h6, h7⟩
      | ownd ks ds => obtain ⟨b, vs, rfl, h4, hk, h5, h6, h7⟩ := e2; exact ⟨b, vs, rfl, h4, hk, h5.mono le, by show upd _ _ _ b = none; rw [upd_ne (fun y => ne rfl (by rw [y]))]; exact h6, h7⟩
  · have e : upd W.Z a o b = some u := e
    by_cases y : b = a
    · rw [y]; exact .inr (.inr ⟨i, s0, hi, ho, ha⟩)
    · rw [upd_ne y] at e; exact .inl e
theorem dss_frz {sts : List Stmt} {m : MS} (i : Nat) (h : Dss X sts m) : Dss X sts (frzM i m) := ⟨PSs.mono h.pss fun D σ H ⟨W, env, S, r, s, fl, S', h, g⟩ => by
  have other : m env S = some (fl, S') → tSt X.K X.mg m D σ H := fun h => ⟨W, env, S, r, s, fl, S', h, g⟩
  cases q : env[i]? with
  | none => simp only [frzM, q] at h; exact other h
  | some o => cases o with
    | none => simp only [frzM, q] at h; exact other h
    | some sl => cases sl with
      | val d => simp only [frzM, q] at h; exact other h
      | own ds =>
        simp only [frzM, q] at h
        obtain ⟨v, e1, a, vs, rfl, h4, h5, h6, h7⟩ := r.ats i _ q
        have le := (s.freeze h4 h6 h7).1
        obtain ⟨r2, f2⟩ := r.frz s q rfl e1 h4 h6 h7 (d := .lst ds) (.lst (by show upd _ _ _ _ = _; exact upd_same) (h5.mono le))
        exact ⟨_, _, S, r2, (s.freeze h4 h6 h7).2, fl, S', h, g.step le f2⟩
      | ownd ks ds =>
        simp only [frzM, q] at h
        obtain ⟨v, e1, a, vs, rfl, h4, hk, h5, h6, h7⟩ := r.ats i _ q
        have le := (s.freeze h4 h6 h7).1
        obtain ⟨r2, f2⟩ := r.frz s q rfl e1 h4 h6 h7 (d := .dct ks ds) (.dct (by show upd _ _ _ _ = _; exact upd_same) hk (h5.mono le))
        exact ⟨_, _, S, r2, (s.freeze h4 h6 h7).2, fl, S', h, g.step le f2⟩⟩
end

/-! ### [e for a in xs for b in ys] -/
section
variable {X : Cx} {K : PySem.W.Frag} {mg : Str → Option Value}
/-- the list at A under way -/
structure LcI (K : PySem.W.Frag) (mg : Str → Option Value) (W1 : Wd) (H1 : Hp) (A : Addr) (W2 : Wd) (S2 : List O) (H2 : Hp) (ac : List D) : Prop where
  le : W1.le W2
  f : Frame W1 W2 H1 H2
  s : StRel K mg W2 S2 H2
  a : ∃ acc, H2 A = some (.lst acc) ∧ IsVs K mg W2 acc ac
  z : W2.Z A = none
  r : ∀ l, l < W2.n → W2.r l ≠ A
variable {W1 W2 W3 : Wd} {S1 S2 S3 : List O} {H1 H2 H3 : Hp} {A : Addr} {ac : List D}
theorem LcI.step (i : LcI K mg W1 H1 A W2 S2 H2 ac) (s1 : StRel K mg W1 S1 H1) (le : W2.le W3) (f : Frame W2 W3 H2 H3) (s : StRel K mg W3 S3 H3) : LcI K mg W1 H1 A W3 S3 H3 ac := by
  obtain ⟨acc, k1, k2⟩ := i.a
  refine ⟨i.le.trans le, i.f.trans s1 i.s i.le f le, s, ⟨acc, f.kp _ _ k1 i.r, k2.mono le⟩, ?_, fun l hl q => ?_⟩
  · cases q : W3.Z A with
    | none => rfl
    | some u =>
      rcases f.fz _ _ q with z | z
      · rw [i.z] at z; cases z
      · rw [k1] at z; cases z
  · by_cases hn : l < W2.n
    · exact i.r l hn (by rw [← le.r l hn]; exact q)
    · have := f.fr l (Nat.le_of_not_lt hn) hl
      rw [q, k1] at this; cases this
theorem LcI.app {acc : List V} {v : V} {y : D} (i : LcI K mg W1 H1 A W2 S2 H2 ac) (hA : H1 A = none) (k1 : H2 A = some (.lst acc)) (k2 : IsVs K mg W2 acc ac) (iv : IsV K mg W2 v y) : LcI K mg W1 H1 A W2 S2 (upd H2 A (.lst (acc ++ [v]))) (ac ++ [y]) := by
  refine ⟨i.le, ⟨fun a o e hr => by rw [upd_ne (ne_of_none e hA)]; exact i.f.kp a o e hr, i.f.fr, i.f.fz⟩, ⟨i.s.len, fun a o e => ?_, i.s.zr, i.s.inj, fun l o e => ?_⟩, ⟨_, upd_same, k2.append (.cons iv .nil)⟩, i.z, i.r⟩
  · rw [upd_ne (fun q => by rw [q, i.z] at e; cases e)]; exact i.s.zh _ _ e
  · have hl : l < W2.n := by rw [i.s.len]; exact (List.getElem?_eq_some_iff.mp e).1
    exact (i.s.ob l o e).mono (.refl _) (by rw [upd_ne (i.r l hl)])
theorem LcI.start {S1 : List O} (s1 : StRel K mg W1 S1 H1) (hA : H1 A = none) : LcI K mg W1 H1 A W1 S1 (upd H1 A (.lst [])) [] := by
  refine ⟨.refl _, ⟨fun a o e _ => by rw [upd_ne (ne_of_none e hA)]; exact e, fun l h k => absurd (Nat.lt_of_lt_of_le k h) (Nat.lt_irrefl _), fun a o e => .inl e⟩, ⟨s1.len, fun a o e => by rw [upd_ne (ne_of_none (s1.zh _ _ e) hA)]; exact s1.zh _ _ e, s1.zr, s1.inj, fun l o e => ?_⟩, ⟨[], upd_same, .nil⟩, ?_, fun l hl => s1.ne hA hl⟩
  · have hl : l < W1.n := by rw [s1.len]; exact (List.getElem?_eq_some_iff.mp e).1
    exact (s1.ob l o e).mono (.refl _) (by rw [upd_ne (s1.ne hA hl)])
  · cases q : W1.Z A with
    | none => rfl
    | some u => rw [s1.zh _ _ q] at hA; cases hA
variable {vs : List Nat} {set : SetF} {mt : Env → M Bool} {me : Env → M D} {g : TG}
theorem lc_in {J : It} {es ys : List D} {S' : List O} {env : Env} {σ : L2.St} {Nx : Hp → Prop} (hg : GS K mg g vs set) (s1 : StRel K mg W1 S1 H1) (hA : H1 A = none) (jr : JRel K mg J W2 es) (i0 : LcI K mg W1 H1 A W2 S2 H2 ac) (er : ERel K mg W2 env σ) (h : lcLoop set mt me (wipeE env vs) es S2 = some (ys, S'))
    (hz : ac.length + ys.length ≤ sizeLine) (k : ∀ W3 H3, W2.le W3 → LcI K mg W1 H1 A W3 S' H3 (ac ++ ys) → Nx H3) : ∃ Wt : Nat → Nat → Hp → Prop, (∃ m, Wt 0 m H2) ∧ ∀ j m H, Wt j m H →
      (J.stop j H ∧ Nx H) ∨ (J.go j H ∧ ∃ Nx1 : Hp → Prop, (∀ H', Nx1 H' → ∃ k', k' < m ∧ Wt (j + 1) k' H') ∧ ∀ x H', J.yld j H x H' → g x (L2.wipe σ vs) H' fun σ3 H5 => L2.wipe σ3 vs = L2.wipe σ vs ∧ tT K mg mt σ3 H5 fun b H6 =>
        if b = true then tE K mg me σ3 H6 fun y H7 => ∃ acc, H7 A = some (.lst acc) ∧ acc.length < sizeLine ∧ Nx1 (upd H7 A (.lst (acc ++ [y]))) else Nx1 H6) := by
  refine ⟨fun j m H => j + m = es.length ∧ ∃ W3 S3 ac2 rest, W2.le W3 ∧ LcI K mg W1 H1 A W3 S3 H ac2 ∧ lcLoop set mt me (wipeE env vs) (es.drop j) S3 = some (rest, S') ∧ ac2 ++ rest = ac ++ ys, ⟨es.length, by omega, W2, S2, ac, ys, .refl _, i0, by rw [List.drop_zero]; exact h, rfl⟩, fun j m H hW => ?_⟩
  obtain ⟨hjm, W3, S3, ac2, rest, le3, i3, hl, htot⟩ := hW
  have jr3 := jr W3 S3 H le3 i3.s
  by_cases hj : j < es.length
  · refine .inr ?_
    obtain ⟨jgo, jy⟩ := jr3.1 j _ (List.getElem?_eq_getElem hj)
    rw [List.drop_eq_getElem_cons hj] at hl
    simp only [lcLoop] at hl
    cases hset : set es[j] (wipeE env vs) with
    | none => rw [hset] at hl; cases hl
    | some env2 =>
      rw [hset] at hl
      obtain ⟨b, S4, ht, hl⟩ := bnd_some hl
      refine ⟨jgo, fun H' => j + 1 + (m - 1) = es.length ∧ ∃ W3 S3 ac2 rest, W2.le W3 ∧ LcI K mg W1 H1 A W3 S3 H' ac2 ∧ lcLoop set mt me (wipeE env vs) (es.drop (j + 1)) S3 = some (rest, S') ∧ ac2 ++ rest = ac ++ ys, fun H' hN => ⟨m - 1, by omega, hN⟩, fun x H4 hy => ?_⟩
      obtain ⟨W4, le4, f4, s4, ix⟩ := jy x H4 hy
      have i4 := i3.step s1 le4 f4 s4
      have e4 : ERel K mg W4 env σ := (er.mono le3).mono le4
      refine hg.run W4 S3 H4 (wipeE env vs) env2 (L2.wipe σ vs) x es[j] _ s4 (e4.wipe vs) ix hset fun σ2 er2 hw => ⟨by rw [hw, wipe_wipe], ?_⟩
      refine ⟨W4, env2, S3, er2, s4, b, S4, ht, fun W5 H5 le5 f5 s5 => ?_⟩
      have i5 := i4.step s1 le5 f5 s5
      have le25 := (le3.trans le4).trans le5
      show if b = true then _ else _
      cases b with
      | false =>
        rw [if_neg Bool.false_ne_true] at hl ⊢
        exact ⟨by omega, W5, S4, ac2, rest, le25, i5, hl, htot⟩
      | true =>
        rw [if_pos rfl] at hl ⊢
        obtain ⟨y, S5, hy2, hl⟩ := bnd_some hl
        obtain ⟨ys2, S6, hl, hr⟩ := bnd_some hl
        cases hr
        refine ⟨W5, env2, S4, er2.mono le5, s5, y, S5, hy2, fun W6 v6 H6 le6 f6 s6 i6 => ?_⟩
        have k6 := i5.step s1 le6 f6 s6
        obtain ⟨acc, a1, a2⟩ := k6.a
        refine ⟨acc, a1, ?_, by omega, W6, S5, ac2 ++ [y], ys2, le25.trans le6, k6.app hA a1 a2 i6, hl, by rw [List.append_assoc]; exact htot⟩
        have e1 := congrArg List.length htot
        rw [List.length_append, List.length_append, List.length_cons] at e1
        rw [a2.length]; omega
  · refine .inl ?_
    have hj2 : j = es.length := by omega
    subst hj2
    rw [List.drop_length] at hl
    cases hl
    rw [List.append_nil] at htot
    exact ⟨jr3.2, k W3 H le3 (by rw [← htot]; exact i3)⟩
def lc2Loop (set : SetF) (mt : Env → M Bool) (mi1 : Env → M (List D)) (set1 : SetF) (mt1 : Env → M Bool) (me : Env → M D) (vs1 : List Nat) (w : Env) : List D → M (List D)
  | [] => ret []
  | d :: r => match set d w with
    | none => stuck
    | some e => bnd (mt e) fun b => if b = true then bnd (mi1 e) fun es => bnd (lcLoop set1 mt1 me (wipeE e vs1) es) fun ys => bnd (lc2Loop set mt mi1 set1 mt1 me vs1 w r) fun zs => ret (ys ++ zs) else lc2Loop set mt mi1 set1 mt1 me vs1 w r
def lc2M (vs vs1 : List Nat) (mi : Env → M (List D)) (set : SetF) (mt : Env → M Bool) (mi1 : Env → M (List D)) (set1 : SetF) (mt1 : Env → M Bool) (me : Env → M D) : Env → M (List D) := fun env => bnd (mi env) fun ds => bnd (lc2Loop set mt mi1 set1 mt1 me vs1 (wipeE env vs) ds) fun tot => if tot.length ≤ sizeLine then ret tot else stuck
variable {vs1 : List Nat} {mi mi1 : Env → M (List D)} {set1 : SetF} {mt1 : Env → M Bool} {g1 : TG}
theorem lc2_run {σ : L2.St} {H : Hp} {Q : VK} (hg : GS K mg g vs set) (hg1 : GS K mg g1 vs1 set1) (h : tL K mg (lc2M vs vs1 mi set mt mi1 set1 mt1 me) σ H Q) : tLc2 (tI K mg mi) g (tT K mg mt) (tI K mg mi1) g1 (tT K mg mt1) (tE K mg me) vs vs1 σ H Q := by
  obtain ⟨W, env, S, e, s, tot, S', h, go⟩ := h
  obtain ⟨ds, S1, h1, h⟩ := bnd_some h
  obtain ⟨tot2, S2, h, hz⟩ := bnd_some h
  split at hz
  · rename_i hsz
    cases hz
    refine ⟨W, env, S, e, s, ds, S1, h1, fun W1 J H1 le1 f1 s1 jr => ?_⟩
    intro A hA
    refine ⟨fun i m H2 => i + m = ds.length ∧ ∃ W2 S2 ac rest, LcI K mg W1 H1 A W2 S2 H2 ac ∧ lc2Loop set mt mi1 set1 mt1 me vs1 (wipeE env vs) (ds.drop i) S2 = some (rest, S') ∧ ac ++ rest = tot, ⟨ds.length, by omega, W1, S1, [], tot, LcI.start s1 hA, by rw [List.drop_zero]; exact h, rfl⟩, fun i m H2 hW => ?_⟩
    obtain ⟨him, W2, S2, ac, rest, i2, hl, htot⟩ := hW
    have jr2 := jr W2 S2 H2 i2.le i2.s
    by_cases hi : i < ds.length
    · refine .inr ?_
      obtain ⟨jgo, jy⟩ := jr2.1 i _ (List.getElem?_eq_getElem hi)
      rw [List.drop_eq_getElem_cons hi] at hl
      simp only [lc2Loop] at hl
      cases hset : set ds[i] (wipeE env vs) with
      | none => rw [hset] at hl; cases hl
      | some env2 =>
        rw [hset] at hl
        obtain ⟨b, S3, ht, hl⟩ := bnd_some hl
        refine ⟨jgo, fun H' => i + 1 + (m - 1) = ds.length ∧ ∃ W2 S2 ac rest, LcI K mg W1 H1 A W2 S2 H' ac ∧ lc2Loop set mt mi1 set1 mt1 me vs1 (wipeE env vs) (ds.drop (i + 1)) S2 = some (rest, S') ∧ ac ++ rest = tot, fun H' hN => ⟨m - 1, by omega, hN⟩, fun x H3 hy => ?_⟩
        obtain ⟨W3, le3, f3, s3, ix⟩ := jy x H3 hy
        have i3 := i2.step s1 le3 f3 s3
        have e3 : ERel K mg W3 env σ := ((e.mono le1).mono i2.le).mono le3
        refine hg.run W3 S2 H3 (wipeE env vs) env2 (L2.wipe σ vs) x ds[i] _ s3 (e3.wipe vs) ix hset fun σ2 er hw => ⟨by rw [hw, wipe_wipe], ?_⟩
        refine ⟨W3, env2, S2, er, s3, b, S3, ht, fun W4 H4 le4 f4 s4 => ?_⟩
        have i4 := i3.step s1 le4 f4 s4
        show if b = true then _ else _
        cases b with
        | false =>
          rw [if_neg Bool.false_ne_true] at hl ⊢
          exact ⟨by omega, W4, S3, ac, rest, i4, hl, htot⟩
        | true =>
          rw [if_pos rfl] at hl ⊢
          obtain ⟨es, S4, hes, hl⟩ := bnd_some hl
          obtain ⟨ys, S5, hys, hl⟩ := bnd_some hl
          obtain ⟨zs, S6, hzs, hr⟩ := bnd_some hl
          cases hr
          refine ⟨W4, env2, S3, er.mono le4, s4, es, S4, hes, fun W5 J5 H5 le5 f5 s5 jr5 => ?_⟩
          have i5 := i4.step s1 le5 f5 s5
          have e1 := congrArg List.length htot
          rw [List.length_append, List.length_append] at e1
          exact lc_in hg1 s1 hA jr5 i5 ((er.mono le4).mono le5) hys (by omega) fun W6 H6 le6 i6 => ⟨by omega, W6, S5, ac ++ ys, zs, i6, hzs, by rw [List.append_assoc]; exact htot⟩
    · refine .inl ?_
      have hi2 : i = ds.length := by omega
      subst hi2
      rw [List.drop_length] at hl
      cases hl
      rw [List.append_nil] at htot
      obtain ⟨acc, a1, a2⟩ := i2.a
      refine ⟨jr2.2, go W2 A acc H2 (le1.trans i2.le) (f1.trans s s1 le1 i2.f i2.le) i2.s a1 (by rw [← htot]; exact a2) i2.z i2.r (f1.tr le1 s1 hA)⟩
  · cases hz
theorem dl_comp2 {elt tg iter tg1 iter1 : Expr} {ifs ifs1 : List Expr} {scope : Scope} {own : List (Str × Nat)} {pos : Pos} (hc : X.calm = true) (hN : X.N.Nodup) (hi : DnI X tg iter mi) (ok : BlkOk X.N X.env.scope scope own) (hv : ∀ i ∈ vs1, i ∈ own.map (·.2)) (hs : GS X.K X.mg g (own.map (·.2)) set) (hs1 : GS X.K X.mg g1 vs1 set1)
    (hg : ∀ (s : Shared) (H : Hp) (C : Addr) (cl : List (Str × Addr)) (fp : List Addr), PG (X.blk s H scope (compEnvC scope cl C X.env) fp) tg g) (ht : ∀ (s : Shared) (H : Hp) (C : Addr) (cl : List (Str × Addr)) (fp : List Addr), DnTs (X.blk s H scope (compEnvC scope cl C X.env) fp) ifs mt)
    (hi1 : ∀ (s : Shared) (H : Hp) (C : Addr) (cl : List (Str × Addr)) (fp : List Addr), DnI (X.blk s H scope (compEnvC scope cl C X.env) fp) tg1 iter1 mi1)
    (hg1 : ∀ (s : Shared) (H : Hp) (C : Addr) (cl : List (Str × Addr)) (fp : List Addr), PG (X.blk s H scope (compEnvC scope cl C X.env) fp) tg1 g1) (ht1 : ∀ (s : Shared) (H : Hp) (C : Addr) (cl : List (Str × Addr)) (fp : List Addr), DnTs (X.blk s H scope (compEnvC scope cl C X.env) fp) ifs1 mt1)
    (he : ∀ (s : Shared) (H : Hp) (C : Addr) (cl : List (Str × Addr)) (fp : List Addr), Dn (X.blk s H scope (compEnvC scope cl C X.env) fp) elt me) (hf : ∀ x, foldedSetIterable iter X.env x = pure x := by intro _; rfl) (hf1 : ∀ env x, foldedSetIterable iter1 env x = pure x := by intro _ _; rfl) :
    DnL X (.ListComp elt [⟨tg, iter, ifs, 0⟩, ⟨tg1, iter1, ifs1, 0⟩] scope pos) (lc2M (own.map (·.2)) vs1 mi set mt mi1 set1 mt1 me) :=
  ⟨PE.mono (pe_lc2 hc hN hi.pi ok hv hg (fun s H C cl fp => (ht s H C cl fp).pt) (fun s H C cl fp => (hi1 s H C cl fp).pi) hg1 (fun s H C cl fp => (ht1 s H C cl fp).pt) (fun s H C cl fp => (he s H C cl fp).pe) hf hf1) fun _ _ _ h => lc2_run hs hs1 h⟩
end
end Pm

set_option Elab.async false
set_option linter.all false
set_option maxRecDepth 100000
set_option maxHeartbeats 600000
/-! Pm12: defs that are called where no repr is under way; repr; a law's end. -/
namespace Pm
open PySem PySem.Spec PyProof.Rows L2

/-- as FnOk, where no repr is under way -/
structure FnG (P : Program) (w : World) (K : PySem.W.Frag) (mg : Str → Option Value) (base : Heap) (k : Nat) (f : Addr) (fd : FuncData) (ps : List Str) (sp : Sp) : Prop where
  len : ∀ vs H Q E, sp vs H Q E → vs.length = ps.length
  run : ∀ (A : Around) (fr : List PySem.Env) (s : Shared) (H : Hp) (as : Args) (us : List Value) (vs : List V) (Q : VK) (E : XK), A.guards = some [] → Room k A → Env0 P w K mg base A fr s H → BindsTo s fd as (ps.zip us) → Vals vs us → sp vs H Q E →
    codeAny (model P w) A (.call (.ref f) as) (CR CX0 fr P w H s Q E) s
structure FnGD (P : Program) (w : World) (K : PySem.W.Frag) (mg : Str → Option Value) (base : Heap) (x : Str) (f : Addr) (fd : FuncData) (k : Nat) (ps : List Str) (C : List D → M D) : Prop where
  ok : FnG P w K mg base k f fd ps (spF K mg ps.length C)
  g : mg x = some (.ref f)
  kp : PySem.W.keepIn K (.ref f) = true
  bn : Binds K fd ps []
section
variable {X : Cx} {e : Expr} {es : List Expr} {m : Env → M (List D)} {pos p : Pos} {x : Str} {f : Addr} {fd : FuncData} {k j : Nat} {ps : List Str} {C : List D → M D}
theorem dn_callG (F : FnGD X.prog X.w X.K X.mg X.base x f fd k ps C) (gd : X.A.guards = some []) (hr : Room j X.A) (hk : k ≤ j) (ha : DnA X (e :: es) m) (hg : Gl X x := by rfl) (hdb : (x == ("__debug__" : Str)) = false := by decide)
    (h1 : starEach (e :: es) X.env = (false, eval e X.env) :: starEach es X.env := by rfl) (h2 : (backTo pos (starEach es X.env)).any (·.1) = false := by rfl) : Dn X (.Call (.Name x p) (e :: es) [] pos) (callF ps.length C m) := by
  constructor
  constructor
  intro pins s σ H Q I ⟨W, env, S, e0, st, d, S', hh, go⟩
  obtain ⟨ds, S1, hm, hh⟩ := bnd_some hh
  split at hh
  · rename_i hl
    have body : wpAny (model X.prog X.w) X.A (spliced (backTo pos (starEach (e :: es) X.env))) (fun us s1 => X.K.In s1.heap ∧ wpAny (model X.prog X.w) X.A (call (.ref f) ([] ++ us)) (EP X pins σ Q) X.xe s1) X.xe s := by
      refine thn (ha.pa.run pos pins s σ H (fun vs H1 => spF X.K X.mg ps.length C vs H1 Q E0) I ⟨W, env, S, e0, st, ds, S1, hm, fun W1 vs H1 le1 f1 s1 i1 => ⟨W1, S1, ds, i1, s1, hl, d, S', hh, go.step st le1 f1 s1⟩⟩) fun us s1 ⟨vs, H1, I1, rv, sp⟩ => ⟨I1.kIn, ?_⟩
      have hn : (us ++ []).length = ps.length := by rw [List.append_nil, ← rv.length]; exact F.ok.len _ _ _ _ sp
      have bt := F.bn s1 us I1.kIn hn
      rw [List.append_nil] at bt
      rw [List.nil_append]
      refine wpAny_call (codeAny_mono (F.ok.run X.A X.stack s1 H1 ⟨us, []⟩ us vs Q E0 gd (hr.mono hk) I1.env0 bt rv sp) fun r s2 q => ?_)
      match r, q with
      | .error _, q => exact (show False from q).elim
      | .ok (.ret _), q => exact I1.after q
      | .ok .next, q => exact (show False from q).elim
      | .ok .brk, q => exact (show False from q).elim
      | .ok .cont, q => exact (show False from q).elim
    exact wpAny_Call_Name_kw (ld_glob I hg F.g (PySem.W.callWith_K (h₀ := X.base) I.ok.mod.kin F.kp body h1 h2) hdb)
  · cases hh
end
theorem fnG_ok {P : Program} {w : World} {K : PySem.W.Frag} {mg : Str → Option Value} {base : Heap} {x qual : Str} {st : Stmt} {f : Addr} {fd : FuncData} {N ps : List Str} {k n : Nat} {m : MS} (F : L2.Fun K x qual st f fd) (Sc : FnScope N ps (defScope st)) (hN : N.length = n)
    (hb : ∀ (cdv : Value) (A : Around) (fr : List PySem.Env) (s : Shared) (H : Hp) (E : XK), A.guards = some [] → Room k (A.deeper (envOfC qual (defScope st) s.heap.objs.size f cdv)) → Dss (cxOf CX0 P w K mg base N qual (defScope st) f cdv A fr s H E).nox (defBody st) m) :
    FnG P w K mg base (k + 1) f fd ps (spF K mg ps.length (bodyM n m)) := by
  have hlen : ∀ vs H Q E, spF K mg ps.length (bodyM n m) vs H Q E → vs.length = ps.length := fun vs H Q E ⟨W, S, ds, i, _, hl, _⟩ => i.length.trans hl
  obtain ⟨oc, od, kV, doc, pm, an, cdv, ct, osl, efd, lk, hcd⟩ := F.ex
  subst efd
  exact ⟨hlen, fun A fr s H as us vs Q E gd hr e0 bt rv sp => LamX.run_ofS lk hcd Sc hr e0 bt rv (hlen _ _ _ _ sp) fun hr2 => ⟨_, (hb cdv A fr s H E gd hr2).pss.nox, body_run hN sp⟩⟩

/-! ### repr -/
section
variable {X : Cx}
def rReprD (K : PySem.W.Frag) : List V → Hp → VK → Prop := fun xs H Q => ∃ a d, xs = [.ref a] ∧ Dp K H (.ref a) d ∧ SeqAt.shaped d = true ∧ d.showable = true ∧ d.shown.length ≤ sizeLine ∧ Q (.str d.shown) H
theorem cr_repr (gd : X.A.guards = some []) (hu : X.A.units + 66 < cLine) : CallR X (.builtin "repr") (rReprD X.K) := by
  intro pins s σ H xs us Q I rv h
  obtain ⟨a, d, rfl, hd, sh, sw, sz, q⟩ := h
  cases rv with
  | cons r1 r2 =>
    cases r2
    obtain ⟨as, rd⟩ := Dp.reads I d _ _ hd r1
    cases (show _ = Value.ref a from r1)
    have nd := SeqAt.canLay_of_shaped sh
    have dp := SeqAt.depth_of_shaped sh
    refine repr_of_reads' rd sw (PyData.noDict_hsm (PyData.hasDict_of_canLay d nd)) gd (by omega) (fun _ _ z => z) (fun h' u tk hk => ⟨.str d.shown, H, I.kept (t' := tk) hk, ⟨u, rfl⟩, q⟩) sz
/-- repr of a list or a tuple -/
def reprD : List D → M D
  | [d] => match d.items, d.toPy with
    | some _, some p => if SeqAt.shaped p = true ∧ p.showable = true ∧ p.shown.length ≤ sizeLine then ret (.str p.shown) else stuck
    | _, _ => stuck
  | _ => stuck
theorem rs_repr {K : PySem.W.Frag} {mg : Str → Option Value} : RSn K mg (rReprD K) reprD := fun W S H vs ds z S' Q s i q k => by
  match ds, q with
  | [d], q =>
    cases e1 : d.items with
    | none => simp [reprD, e1, stuck] at q
    | some its =>
      cases e2 : d.toPy with
      | none => simp [reprD, e1, e2, stuck] at q
      | some p =>
        simp only [reprD, e1, e2] at q
        split at q
        · rename_i hc
          simp only [ret, Option.some.injEq, Prod.mk.injEq] at q
          obtain ⟨rfl, rfl⟩ := q
          cases i with
          | cons i1 i2 =>
            cases i2
            obtain ⟨a, ws, rfl, _, _⟩ := i1.items s e1
            exact ⟨a, p, rfl, i1.dp s.zh e2, hc.1, hc.2.1, hc.2.2, k.here s (.str _)⟩
        · cases q
end

/-! ### a law's end -/
section
variable {P : Program} {w : World} {K : PySem.W.Frag} {mg mb : Str → Option Value} {k : Nat} {fa a : Addr} {fd : FuncData} {x : Str} {sp : Sp} {s₁ : Shared} {vs : List Value} {ns : List Int}
/-- what the end asks of the abstract heap -/
structure HLaw (P : Program) (w : World) (K : PySem.W.Frag) (s₁ : Shared) (a : Addr) (ns : List Int) (H : Hp) : Prop where
  seq : SqS K H a ns
  ok : HOk P w H s₁.heap
  at_ : ∀ b, H b ≠ none → b = a
  nk : H a ≠ none → K.lookup a = none
  fr : ∀ u, H a = some u → ∃ o xs, u = .frz o (.lst xs)
theorem end_core (KX : K.In s₁.heap) (n1 : s₁.heap.Ns mainGlobals mg) (n2 : s₁.heap.Ns builtinsNs mb) (n3 : ∀ x : Str, x ≠ "__name__" → mb x = bootBuiltins x) (n4 : s₁.heap.NoLimit) (hg : s₁.gens = #[]) (ha : s₁.heap.get? a = some { cls := .type "list", data := .seq vs.toArray }) (hr : Room k callerA)
    (F : ∀ base : Heap, K.In base → base.Ns mainGlobals mg → FnG P w K mg base k fa fd [x] sp) (bt : ∀ (s : Shared) (u : Value), BindsTo s fd ⟨[u], []⟩ [(x, u)]) {H : Hp} (hH : HLaw P w K s₁ a ns H) (hsp : sp [.ref a] H (fun v _ => v = .bl true) E0) :
    codeAny (model P w) callerA (.call (.ref fa) ⟨[.ref a], []⟩) (fun r s' => r = .ok (.ret (.bool true)) ∧ OldK s₁.heap s'.heap ∧ s'.os = s₁.os ∧ AllBare s'.gens) s₁ := by
  obtain ⟨hS, hok, hA, hK, hF⟩ := hH
  have free : ∀ b, b ≠ a → H b = none := fun b hb => by
    cases q : H b with
    | none => rfl
    | some u => exact absurd (hA b (by rw [q]; exact Option.some_ne_none _)) hb
  have dictNe : ∀ b es ep (ob : Obj), s₁.heap.get? b = some ob → ob.data = .dict es ep → b ≠ a := fun b es ep ob e1 e2 e3 => by
    rw [e3, ha] at e1; cases e1; cases e2
  have nsB : ∀ {b m}, s₁.heap.Ns b m → (hidT s₁.heap H).Ns b m := fun {b m} ⟨ob, es, ep, e1, e2, r⟩ => ⟨ob, es, ep, hidT_get e1 (free b (dictNe b es ep ob e1 e2)), e2, r⟩
  have kB : K.In (hidT s₁.heap H) := fun b ob e => hidT_get (KX b ob e) (by
    cases q : H b with
    | none => rfl
    | some u =>
      have z := hA b (by rw [q]; exact Option.some_ne_none _)
      rw [z, hK (by rw [← z, q]; exact Option.some_ne_none _)] at e; cases e)
  obtain ⟨mc, l1, l2⟩ := n4
  have e0 : Env0 P w K mg (hidT s₁.heap H) callerA [] s₁ H :=
    { frames := rfl, mod := ⟨kB, nsB n1, ⟨mb, nsB n2, n3⟩, ⟨mc, nsB l1, l2⟩⟩, bs := fun b ob e => of_hidT e, bsz := Nat.le_of_eq (hidT_size _ _), funs := trivial, frf := (fun b hb => by cases (show b ∈ ([] : List Addr) from hb)), hok := hok, bare := .of_eq hg }
  have run := (F _ kB (nsB n1)).run callerA [] s₁ H ⟨[.ref a], []⟩ [.ref a] [.ref a] (fun v _ => v = .bl true) E0 rfl hr e0 (bt s₁ (.ref a)) (.cons rfl .nil) hsp
  refine codeAny_mono run fun r s' q => ?_
  match r, q with
  | .error _, q => exact (show False from q).elim
  | .ok .next, q => exact (show False from q).elim
  | .ok .brk, q => exact (show False from q).elim
  | .ok .cont, q => exact (show False from q).elim
  | .ok (.ret u), q =>
    obtain ⟨v, H', os, bare, un, hok', rv, ev⟩ := q
    cases (show v = V.bl true from ev)
    cases (show u = Value.bool true from rv)
    refine ⟨rfl, OldK.of_keep fun b ob e => ?_, os, bare⟩
    cases c : H b with
    | none => exact un.keep b ob e c (fun z => by cases (show b ∈ ([] : List Addr) from z)) (fun z => by cases z)
    | some u =>
      have hb := hA b (by rw [c]; exact Option.some_ne_none _)
      subst hb
      obtain ⟨o₀, xs, rfl⟩ := hF u c
      have z := un.frzs b o₀ _ c
      have y1 := (hok b _ c).1
      have y2 := (hok' b _ z).1
      rw [e] at y1; cases y1
      exact y2
/-- the goal that k_head leaves, from the law's promise -/
theorem law_end {l : PySem.W.OpenLaw} {n k : Nat} {q : Program} {loose : List Str} {XP : (Str → Option Value) → Heap → Prop} {YP : World → Heap → Prop} {d : DefRec} {K : Params → PySem.W.Frag} {x : Str} {C : List D → M D}
    (hn : l.most = some n) (hn2 : n ≤ sizeLine) (hdf : d.params.defaults = []) (hr : Room k callerA) (hY : ∀ (w : World) (h : Heap), YP w h → (K w.params).In h)
    (F : ∀ (w : World) (mg : Str → Option Value) (fa : Addr) (h : Heap), (K w.params).In h → h.Ns mainGlobals mg → mg d.name = some (.ref fa) →
      ∃ fd : FuncData, (∀ (s : Shared) (u : Value), BindsTo s fd ⟨[u], []⟩ [(x, u)]) ∧ ∀ base : Heap, (K w.params).In base → base.Ns mainGlobals mg → FnG l.prog w (K w.params) mg base k fa fd [x] (spF (K w.params) mg 1 C))
    (hsp : ∀ ns : List Int, ns.length ≤ n → ∃ S', C [.scr ns] [] = some (.bl true, S')) :
    PySem.W.WalkO q loose XP YP l.row.toRowW d [] (fun f vs => PySem.call f vs) := by
  refine Att.attach_call hn hdf fun w s₀ s₁ mg mb fa o pm cd doc a vs ns G Y ho hd hcd hmg hobj hints hlen hg => ?_
  have KX := hY w _ Y
  obtain ⟨fd, bt, hF⟩ := F w mg fa _ KX G.T.g hmg
  have hz : ns.length ≤ sizeLine := Nat.le_trans hlen hn2
  obtain ⟨S', hC⟩ := hsp ns hlen
  have fin : ∀ H : Hp, HLaw l.prog w (K w.params) s₁ a ns H → spF (K w.params) mg 1 C [.ref a] H (fun v _ => v = .bl true) E0 := fun H hH => by
    refine ⟨⟨H, fun _ => 0, 0⟩, [], [.scr ns], .cons (.scr hH.seq) .nil, ⟨rfl, fun _ _ e => e, fun l h => absurd h (Nat.not_lt_zero _), fun l _ h => absurd h (Nat.not_lt_zero _), fun l o e => by simp at e⟩, rfl, .bl true, S', hC, fun W' v H' _ _ _ i => ?_⟩
    cases i; rfl
  cases kk : (K w.params).lookup a with
  | some ob =>
    have e := KX a ob kk
    rw [hobj] at e
    cases e
    have hH : HLaw l.prog w (K w.params) s₁ a ns (fun _ => none) := ⟨.inr ⟨_, vs.toArray, _, kk, rfl, rfl, rfl, by rw [List.size_toArray, hints.length]; exact hz, vals_ints hints⟩, (fun b u z => by cases z), fun b z => absurd rfl z, fun z => absurd rfl z, (fun u z => by cases z)⟩
    exact end_core KX G.T.g G.T.b G.T.builtins G.T.nolimit hg hobj hr hF bt hH (fin _ hH)
  | none =>
    let H : Hp := fun b => if b = a then some (.frz { cls := .type "list", data := .seq vs.toArray } (.lst (ns.map V.int))) else none
    have Ha : H a = some (.frz { cls := .type "list", data := .seq vs.toArray } (.lst (ns.map V.int))) := if_pos rfl
    have Hn : ∀ b, b ≠ a → H b = none := fun b hb => if_neg hb
    have hH : HLaw l.prog w (K w.params) s₁ a ns H := by
      refine ⟨.inl ⟨_, Ha⟩, fun b u e => ?_, fun b hb => ?_, fun _ => kk, fun u e => ?_⟩
      · by_cases hb : b = a
        · subst hb
          rw [Ha] at e; cases e
          exact ⟨hobj, by rw [List.length_map]; exact hz, vs, _, vals_ints hints, hobj⟩
        · rw [Hn b hb] at e; cases e
      · by_cases hb2 : b = a
        · exact hb2
        · exact absurd (Hn b hb2) hb
      · rw [Ha] at e; cases e; exact ⟨_, _, rfl⟩
    exact end_core KX G.T.g G.T.b G.T.builtins G.T.nolimit hg hobj hr hF bt hH (fin _ hH)
end
end Pm

set_option Elab.async false
set_option linter.all false
set_option maxRecDepth 100000
set_option maxHeartbeats 600000
/-! Pm13: enumerate of a tuple. -/
namespace Pm
open PySem PySem.Spec PyProof.Rows L2
open Sem (wp)
open AutoSeq1 (wpAny_loadPart')

theorem enumB_new {v : Value} {o : Obj} {G : Heap → Prop} (B : Begins v o G) :
    Meets (Builtin.«enumerate.__new__» ⟨[.type "enumerate", v], []⟩) (fun _ R s => G s.heap ∧
      R (.ok (.ret (.ref (s.heap.push o).objs.size))) { s with heap := (s.heap.push o).push { cls := .type "enumerate", data := .fields #[.none, .bool false, .ref s.heap.objs.size, rawInt 0, .none, .none] } }) :=
  .of_wp fun prog w A R s hyp => by
    obtain ⟨hp, gs, dr, tk, os⟩ := s
    obtain ⟨hG, hyp⟩ := hyp
    have hsub := sub_enumerate
    have qI : ∀ {A2 : Around} {E : Value → Shared → Prop} {Q : Value → Shared → Prop}, Q (.ref hp.objs.size) ⟨hp.push o, gs, dr, tk, os⟩ → wpAny (model prog w) A2 (pyIter v) Q E ⟨hp, gs, dr, tk, os⟩ :=
      fun q => B.iter prog w _ _ ⟨hp, gs, dr, tk, os⟩ _ hG q
    wp_walk using qI
    refine wpAny_stack_any fun stk => wpAny_pure ?_
    split
    · rename_i c _ _ _ _ _
      cases (c == Value.type "enumerate") <;> (wp_walk using qI; exact ⟨_, rfl, hyp⟩)
    · wp_walk using qI
      exact ⟨_, rfl, hyp⟩
theorem enumB_begins {P : Program} {w : World} {A : Around} {E : Value → Shared → Prop} {s : Shared} {v : Value} {o : Obj} {G : Heap → Prop} {Q : Value → Shared → Prop} (B : Begins v o G) (hG : G s.heap)
    (k : ∀ h', IsEnum h' (s.heap.objs.size + 1) s.heap.objs.size 0 .none → h'.get? s.heap.objs.size = some o → (∀ b u, s.heap.get? b = some u → h'.get? b = some u) → Q (.ref (s.heap.objs.size + 1)) { s with heap := h' }) :
    wpAny (model P w) A (call (.type "enumerate") [v]) Q E s := by
  refine callType_new F.called_enumerate (by decide) (F.typeCall_enumerate_1 _) (F.newCall_enumerate_1 _) (fun obj => F.args_object_init_2 obj _) F.entry_enumerate_new (enumB_new B) ⟨hG, ?_⟩
  have hz : (s.heap.push o).objs.size = s.heap.objs.size + 1 := Heap.size_push ..
  show _ ∧ _
  rw [hz]
  have he : IsEnum ((s.heap.push o).push { cls := .type "enumerate", data := .fields #[.none, .bool false, .ref s.heap.objs.size, rawInt 0, .none, .none] }) (s.heap.objs.size + 1) s.heap.objs.size 0 .none := by
    have q := Heap.get?_push_size (s.heap.push o) (o := { cls := .type "enumerate", data := .fields #[.none, .bool false, .ref s.heap.objs.size, rawInt 0, .none, .none] }) rfl
    rw [hz] at q; exact q
  exact ⟨⟨_, he, rfl⟩, k _ he (Heap.get?_push_of_some _ (Heap.get?_push_size _ B.free)) fun b u x => Heap.get?_push_of_some _ (Heap.get?_push_of_some _ x)⟩
theorem enumT_stop {P : Program} {w : World} {A : Around} {E : Value → Shared → Prop} {s : Shared} {e it t : Addr} {i : Nat} {vs : Array Value} {old : Value} {Q : Option Value → Shared → Prop} (hA : A.handled = none) (he : IsEnum s.heap e it i old) (hi : s.heap.IsTupleIter it t i) (ht : s.heap.IsTuple t vs) (hx : vs[i]? = none)
    (k : ∀ h', Heap.ExtBut it s.heap h' → Q none { s with heap := h' }) : wpAny (model P w) A (pyNext (.ref e)) Q E s := by
  have ty : s.TypeIs (.ref e) "enumerate" := ⟨_, he, rfl⟩
  unfold pyNext
  refine wpAny_bind (wpAny_attempt (wpAny_callSpecial?_slot (name := Str.ofString "__next__") ty F.slot_enumerate_next (wpAny_call_entry F.slot_enumerate_next ty F.entry_enumerate_next ?_ (F.args_enumerate_next_1 _))))
  show wpAny _ _ (field (.ref e) 2 >>= _) _ _ _
  refine wpAny_bind (wpAny_field he rfl (x := .ref it) rfl (wpAny_bind (wpAny_nextOf_tuple_end hA hi ht hx fun h' x eb hs => ?_)))
  obtain ⟨o, ho, hc⟩ := hs
  exact wpAny_bind (wpAny_isInstance (T := "StopIteration") (b := true) ⟨o, ho, hc⟩ isSubtype_stop (wpAny_pure (k _ eb)))
/-- the tuple at a, each item in a new pair -/
def IteT (K : PySem.W.Frag) (a : Addr) : It where
  go i H := ∃ (xs : List V) (x : V), SqT K H a xs ∧ xs[i]? = some x
  yld i H v H' := ∃ T x, v = .ref T ∧ H T = none ∧ H' = upd H T (.tup [.int (i : Nat), x]) ∧ ∀ xs, SqT K H a xs → xs[i]? = some x
  stop i H := ∃ xs : List V, SqT K H a xs ∧ xs.length ≤ i
theorem turn_enumT {P : Program} {w : World} {K : PySem.W.Frag} {elts : List Expr} {kk : Nat} {tpos : Pos} {a e it : Addr} (hai : a ≠ it) (hae : a ≠ e) :
    Turn P w K (.Tuple elts kk tpos) (IteT K a) [e, it] e (fun i h => (∃ old, IsEnum h e it ((i : Nat) : Int) old) ∧ h.IsTupleIter it a i ∧ e ≠ it) where
  mem := by simp
  obj := fun i h st b hb => by
    obtain ⟨⟨old, he⟩, ⟨o, ho, hc, hd⟩, _⟩ := st
    rcases (show b = e ∨ b = it by simpa using hb) with z | z
    · exact z ▸ ⟨_, he, fun v q => nomatch q⟩
    · exact z ▸ ⟨o, ho, fun v q => by rw [hd] at q; cases q⟩
  keep := fun i h h' st k => let ⟨⟨old, he⟩, hi, hne⟩ := st; ⟨⟨old, k e (by simp) _ he⟩, hi.at fun o q => k it (by simp) o q, hne⟩
  item := by
    intro X hP hw hK hc i pins s σ H E I hf st hg
    subst hP hw hK
    obtain ⟨⟨old, he⟩, hit, hne⟩ := st
    obtain ⟨xs, x, hq, hx⟩ := hg
    obtain ⟨its, rv, p, hz⟩ := I.tuple hq
    obtain ⟨u, hu, ru⟩ := rv.get hx
    have hel : e < s.heap.objs.size := Heap.lt_size he
    have hil : it < s.heap.objs.size := by obtain ⟨_, q, _⟩ := hit; exact Heap.lt_size q
    have pt : s.heap.IsTuple a its.toArray := p
    have hil2 : i < its.toArray.size := by
      have := (List.getElem?_eq_some_iff.mp hu).1
      simpa using this
    refine wpAny_pyNext_enum_itemD (Draws.tuple (A := X.A.in1) (show X.A.in1.handled = none from I.ok.hd hc) it a hai its.toArray) he ⟨hit, pt⟩ hil2 hne (by simp [hne, Ne.symm hae]) fun y h' tk hy ho hst hT hsz hk => ?_
    have ey : y = u := by simpa [hu] using hy.symm
    subst ey
    refine ⟨_, rfl, wpAny_letOwnedTupleGo_enum (s := { s with heap := h', toks := tk + 1 }) ho fun h'' he' sb => ?_⟩
    have hT2 : h''.get? s.heap.objs.size = some { cls := .type "tuple", data := .seq #[.int i tk, y] } := (sb.2 _ (Nat.ne_of_gt hel)).trans hT
    have new : ObjOk X.prog X.w (upd H s.heap.objs.size (.tup [.int (i : Nat), x])) h'' s.heap.objs.size (.tup [.int (i : Nat), x]) :=
      ⟨by show 2 ≤ sizeLine; decide, [.int i tk, y], .cons ⟨_, rfl⟩ (.cons ru .nil), ⟨_, hT2, rfl, _, rfl⟩⟩
    have I1 : Inv X pins σ (upd H s.heap.objs.size (.tup [.int (i : Nat), x])) { s with heap := h'', toks := tk + 1 } :=
      I.turnedNew (ch := [e, it]) (fun b ob hb q => (sb.2 b (fun z => hb (by simp [z]))).trans (hk b ob (fun z => hb (by simp [z])) (fun z => hb (by simp [z])) q)) hf (Nat.le_refl _) new
    refine ⟨.ref s.heap.objs.size, _, I1, rfl, ⟨_, x, rfl, I.hok.fresh (Nat.le_refl _), rfl, fun ys hy => by rw [I.tuple_inj hy hq]; exact hx⟩, ⟨⟨y, ?_⟩, hst.1.at fun o q => (sb.2 it (Ne.symm hne)).trans q, hne⟩, fun b hb => ?_⟩
    · rw [show ((i + 1 : Nat) : Int) = (i : Int) + 1 by omega]
      exact he'
    · have hb' : b < s.heap.objs.size := by
        rcases (show b = e ∨ b = it by simpa using hb) with z | z <;> rw [z] <;> assumption
      rw [upd_ne (Nat.ne_of_lt hb')]
      exact (hf b hb).1
  done := by
    intro X hP hw hK hc i pins s σ H E I hf st hg
    subst hP hw hK
    obtain ⟨⟨old, he⟩, hit, hne⟩ := st
    obtain ⟨xs, hq, hx⟩ := hg
    obtain ⟨its, rv, p, hz⟩ := I.tuple hq
    obtain ⟨f0, f1, f2, f3, f4, f5⟩ := hf it (by simp)
    have hl := rv.length
    refine enumT_stop (I.ok.hd hc) he hit p (by simp; omega) fun h' eb => ⟨rfl, I.turned (t' := s.toks) (fun b o hb q => eb b o hb q) f0 f1 f3 f4 f5⟩
  self := fun A i s Q E st h => let ⟨⟨_, he⟩, _⟩ := st; wpAny_pyIter_enum he h
section
variable {X : Cx} {e : Expr} {p pos tpos : Pos} {elts : List Expr} {kk : Nat} {m : Env → M (List D)}
def enumD : List D → M (List D)
  | [.tup ds] => ret (ds.mapIdx fun i d => .tpl [.int (i : Nat), d])
  | _ => stuck
theorem jr_enumT {K : PySem.W.Frag} {mg : Str → Option Value} {W : Wd} {a : Addr} {vs : List V} {ds : List D} (hz : SqT K W.Z a vs) (i : IsVs K mg W vs ds) : JRel K mg (IteT K a) W (ds.mapIdx fun i d => .tpl [.int (i : Nat), d]) := fun W1 S1 H1 le s => by
  have hs : SqT K H1 a vs := SqT.mono K s.zh (SqT.mono K le.z hz)
  refine ⟨fun n d e => ?_, ⟨vs, hs, by rw [List.length_mapIdx]; exact Nat.le_of_eq i.length⟩⟩
  rw [List.getElem?_mapIdx] at e
  cases q : ds[n]? with
  | none => rw [q] at e; cases e
  | some d0 =>
    rw [q] at e
    cases e
    obtain ⟨v, e1, e2⟩ := i.get q
    refine ⟨⟨vs, v, hs, e1⟩, fun x H2 ⟨T, x1, ex, hT, eh, f1⟩ => ?_⟩
    subst ex eh
    have f1 := f1 vs hs
    rw [e1] at f1; cases f1
    exact pair_new s (.int _) (e2.mono le) hT
theorem di_enum (ha : DnA X [e] m) (hm : X.mg "enumerate" = none) (hg : Gl X "enumerate" := by rfl) (hs : starEach [e] X.env = [(false, eval e X.env)] := by rfl) : DnI X (.Tuple elts kk tpos) (.Call (.Name "enumerate" p) [e] [] pos) (fun env => bnd (m env) enumD) := by
  refine ⟨⟨fun pins s σ H R I h => ?_⟩⟩
  obtain ⟨W, env, S, er, st, ds, S', hh, go⟩ := h
  obtain ⟨x, S1, h1, hh⟩ := bnd_some hh
  refine Call_ (ld_blt I hg hm boot_enumerate (PyProof.Rows.callWith_type1 (thn (ha.pa.run pos pins s σ H (fun vs H1 => ∃ a xs, vs = [.ref a] ∧ SqT X.K H1 a xs ∧ R (IteT X.K a) H1) I ⟨W, env, S, er, st, x, S1, h1, fun W1 v1 H1 le1 f1 s1 i1 => ?_⟩) fun us s1 ⟨vs, H1, I1, r1, q1⟩ => ?_) hs rfl))
  · unfold enumD at hh
    split at hh
    · cases hh
      cases i1 with
      | cons a b => cases b; cases a with
        | tup hz i => exact ⟨_, _, rfl, TupX.up s1 hz, go W1 _ H1 le1 f1 s1 (jr_enumT hz.t i)⟩
    · cases hh
  · obtain ⟨a, xs, ex, hq, q⟩ := q1
    subst ex
    cases r1 with
    | cons r rr =>
      cases rr
      cases r
      obtain ⟨its, rv, pt, hz⟩ := I1.tuple hq
      have ptt : s1.heap.IsTuple a its.toArray := pt
      have hal : a < s1.heap.objs.size := by obtain ⟨_, q, _⟩ := ptt; exact Heap.lt_size q
      refine enumB_begins (begins_tuple a its.toArray) ptt fun h' he hit hk => wpAny_pyIter_enum he ?_
      have I2 : Inv X pins σ H1 { s1 with heap := h' } := I1.kept (t' := s1.toks) hk
      refine ⟨s1.heap.objs.size + 1, [s1.heap.objs.size + 1, s1.heap.objs.size], _, _, H1, rfl, I2, turn_enumT (Nat.ne_of_lt hal) (Nat.ne_of_lt (Nat.lt_succ_of_lt hal)), ⟨⟨.none, he⟩, ⟨_, hit, rfl, rfl⟩, Nat.succ_ne_self _⟩, fun b hb => ?_, q⟩
      have hle : s1.heap.objs.size ≤ b := by
        rcases (show b = s1.heap.objs.size + 1 ∨ b = s1.heap.objs.size by simpa using hb) with z | z <;> rw [z]
        · exact Nat.le_succ _
        · exact Nat.le_refl _
      exact I1.fpOk hle (I1.hok.fresh hle)
end
end Pm

set_option Elab.async false
set_option linter.all false
set_option maxRecDepth 100000
set_option maxHeartbeats 600000
/-! Pm14: calls by keywords, instances, lambdas of two parameters. -/
namespace Pm
open PySem PySem.Spec PyProof.Rows L2

section
variable {X : Cx} {pins : List (Addr × Obj)} {σ : L2.St} {H : Hp} {s : Shared} {Q : VK}
theorem call_end (I : Inv X pins σ H s) {v : Value} {us : List Value} {kw : List (Str × Value)} (rc : codeAny (model X.prog X.w) X.A (.call v ⟨us, kw⟩) (CR CX0 X.stack X.prog X.w H s Q E0) s) : wpAny (model X.prog X.w) X.A (call v us kw) (EP X pins σ Q) X.xe s := by
  refine wpAny_call (codeAny_mono rc fun r s2 q => ?_)
  match r, q with
  | .error _, q => exact (show False from q).elim
  | .ok (.ret _), q => exact I.after q
  | .ok .next, q => exact (show False from q).elim
  | .ok .brk, q => exact (show False from q).elim
  | .ok .cont, q => exact (show False from q).elim
end
section
variable {X : Cx} {e : Expr} {es : List Expr} {m : Env → M (List D)} {pos p : Pos} {x : Str} {f C : Addr} {fd : FuncData} {k j : Nat} {ps : List Str} {Ci : List D → M D}
/-- f(k = v, ..) -/
theorem dn_callGK {kws : List Keyword} {ks : List Str} {π : List Nat} (F : FnGD X.prog X.w X.K X.mg X.base x f fd k ps Ci) (gd : X.A.guards = some []) (hr : Room j X.A) (hk : k ≤ j) (hb : KBn X.K fd ps 0 ks (fun _ ws => reord π ws) (fun _ zs => reord π zs)) (ha : DnK X kws m) (hg : Gl X x := by rfl)
    (hal : (backToKw pos (keywordEach kws X.env)).all (·.1.isSome) = true := by rfl) (hksn : (backToKw pos (keywordEach kws X.env)).filterMap (·.1) = ks := by rfl) (hdb : (x == ("__debug__" : Str)) = false := by decide)
    (hplain : ((backTo pos (starEach [] X.env)).any (·.1) || (backToKw pos (keywordEach kws X.env)).any (·.1.isNone)) = false := by rfl) :
    Dn X (.Call (.Name x p) [] kws pos) (callK ps.length ks.length π Ci m) := by
  refine ⟨⟨fun pins s σ H Q I ⟨W, env, S, e, sr, d, S', h, g⟩ => ?_⟩⟩
  obtain ⟨ds, S1, h1, h⟩ := bnd_some h
  split at h
  · rename_i hl
    refine wpAny_Call_Name_kw (ld_glob I hg F.g ?_ hdb)
    refine PySem.W.callWith_KW0 (h₀ := X.base) I.ok.mod.kin F.kp hal (thn (ha.pk.run pos pins s σ H (fun vs H1 => vs.length = ks.length ∧ spF X.K X.mg ps.length Ci (reord π vs) H1 Q E0) I ⟨W, env, S, e, sr, ds, S1, h1, fun W1 v1 H1 le1 f1 s1 i1 => ?_⟩) fun ws s2 ⟨zs, H2, I2, rz, l2, q2⟩ => ⟨I2.kIn, ?_⟩) hplain
    · exact ⟨i1.length.trans hl.1, W1, S1, _, reord_is i1, s1, hl.2, d, S', h, g.step sr le1 f1 s1⟩
    · rw [hksn]
      exact call_end I2 (F.ok.run X.A X.stack s2 H2 ⟨[], ks.zip ws⟩ (reord π ws) (reord π zs) Q E0 gd (hr.mono hk) I2.env0 (hb.to s2 [] ws I2.kIn rfl (rz.length.symm.trans l2)) (hb.rel .nil rz) q2)
  · cases h
/-- defaults that fill up -/
theorem dn_callGD {dvs : List V} {dds : List D} {dus : List Value} (F : FnGD X.prog X.w X.K X.mg X.base x f fd k ps Ci) (gd : X.A.guards = some []) (hr : Room j X.A) (hk : k ≤ j) (hb : Binds X.K fd ps dus) (hv : Vals dvs dus) (hd : ∀ W, IsVs X.K X.mg W dvs dds) (ha : DnA X (e :: es) m) (hg : Gl X x := by rfl) (hdb : (x == ("__debug__" : Str)) = false := by decide)
    (h1 : starEach (e :: es) X.env = (false, eval e X.env) :: starEach es X.env := by rfl) (h2 : (backTo pos (starEach es X.env)).any (·.1) = false := by rfl) : Dn X (.Call (.Name x p) (e :: es) [] pos) (fun env => bnd (m env) fun ds => if ds.length + dds.length = ps.length then Ci (ds ++ dds) else stuck) := by
  refine ⟨⟨fun pins s σ H Q I ⟨W, env, S, er, sr, d, S', h, g⟩ => ?_⟩⟩
  obtain ⟨ds, S1, hm, h⟩ := bnd_some h
  split at h
  · rename_i hl
    refine wpAny_Call_Name_kw (ld_glob I hg F.g ?_ hdb)
    refine PySem.W.callWith_K (h₀ := X.base) I.ok.mod.kin F.kp (thn (ha.pa.run pos pins s σ H (fun vs H1 => spF X.K X.mg ps.length Ci (vs ++ dvs) H1 Q E0) I ⟨W, env, S, er, sr, ds, S1, hm, fun W1 vs H1 le1 f1 s1 i1 => ⟨W1, S1, ds ++ dds, i1.append (hd _), s1, by rw [List.length_append]; exact hl, d, S', h, g.step sr le1 f1 s1⟩⟩) fun us s1 ⟨vs, H1, I1, rv, sp⟩ => ⟨I1.kIn, ?_⟩) h1 h2
    have r2 : Vals (vs ++ dvs) (us ++ dus) := rv.append hv
    have hn : (us ++ dus).length = ps.length := by rw [← r2.length]; exact F.ok.len _ _ _ _ sp
    exact call_end I1 (F.ok.run X.A X.stack s1 H1 ⟨us, []⟩ _ _ Q E0 gd (hr.mono hk) I1.env0 (hb s1 us I1.kIn hn) r2 sp)
  · cases h
/-- C(..) -/
structure MkD (P : Program) (w : World) (K : PySem.W.Frag) (mg : Str → Option Value) (base : Heap) (x : Str) (C f : Addr) (fd : FuncData) (k : Nat) (ps : List Str) (Ci : List D → M D) : Prop where
  ma : Mk K C f
  ok : FnG P w K mg base k f fd ps (spF K mg ps.length Ci)
  g : mg x = some (.ref C)
  bn : Binds K fd ps []
theorem dn_make (F : MkD X.prog X.w X.K X.mg X.base x C f fd k ps Ci) (gd : X.A.guards = some []) (hr : Room j X.A) (hk : k + 1 ≤ j) (ha : DnA X (e :: es) m) (hg : Gl X x := by rfl) (hdb : (x == ("__debug__" : Str)) = false := by decide)
    (h1 : starEach (e :: es) X.env = (false, eval e X.env) :: starEach es X.env := by rfl) (h2 : (backTo pos (starEach es X.env)).any (·.1) = false := by rfl) : Dn X (.Call (.Name x p) (e :: es) [] pos) (fun env => bnd (m env) (makeD x ps.length Ci)) := by
  refine ⟨⟨fun pins s σ H Q I ⟨W, env, S, er, sr, d, S', h, g⟩ => ?_⟩⟩
  obtain ⟨ds, S1, hm, h⟩ := bnd_some h
  refine wpAny_Call_Name_kw (ld_glob I hg F.g ?_ hdb)
  refine PySem.W.callWith_K (h₀ := X.base) I.ok.mod.kin F.ma.kp (thn (ha.pa.run pos pins s σ H (fun vs H1 => ∀ a dx, H1 a = none → H1 dx = none → dx ≠ a → spF X.K X.mg ps.length Ci (.ref a :: (vs ++ [])) (upd (upd H1 dx (.own a)) a (.ins C dx [])) (fun v H2 => v = .non ∧ Q (.ref a) H2) E0) I
    ⟨W, env, S, er, sr, ds, S1, hm, fun W1 vs H1 le1 f1 s1 i1 a dx n1 n2 n3 => rs_make F.g s1 i1 h (g.step sr le1 f1 s1) n1 n2 n3⟩) fun us s1 ⟨vs, H1, I1, rv, sp⟩ => ⟨I1.kIn, ?_⟩) h1 h2
  have hq := sp (s1.heap.objs.size + 1) s1.heap.objs.size (I1.hok.fresh (Nat.le_succ _)) (I1.hok.fresh (Nat.le_refl _)) (Nat.ne_of_lt (Nat.lt_succ_self _))
  have I2 := Inv.made (C := C) I1
  have r2 : Vals (V.ref (s1.heap.objs.size + 1) :: (vs ++ [])) (Value.ref (s1.heap.objs.size + 1) :: (us ++ [])) := .cons rfl (rv.append .nil)
  have hl : (Value.ref (s1.heap.objs.size + 1) :: us ++ []).length = ps.length := (r2.length.symm.trans (F.ok.len _ _ _ _ hq))
  have bb := F.bn _ (Value.ref (s1.heap.objs.size + 1) :: us) I2.kIn hl
  rw [List.cons_append] at bb
  refine wpAny_call (make_map (f := f) I1.kIn F.ma.makes F.ma.init (beq_iff_eq.mp F.ma.fn) (codeAny_mono (F.ok.run _ X.stack _ _ ⟨Value.ref (s1.heap.objs.size + 1) :: us, []⟩ (Value.ref (s1.heap.objs.size + 1) :: (us ++ [])) _ _ E0 gd ((hr.mono hk).make C us [])
    (I2.env0.make C us []) bb r2 hq) fun r s2 q => ?_))
  match r, q with
  | .error _, q => exact (show False from q).elim
  | .ok (.ret _), q =>
    obtain ⟨v, H3, I3, rv3, ev, q3⟩ := I2.after q
    subst ev
    exact ⟨rv3, V.ref (s1.heap.objs.size + 1), H3, I3, rfl, q3⟩
  | .ok .next, q => exact (show False from q).elim
  | .ok .brk, q => exact (show False from q).elim
  | .ok .cont, q => exact (show False from q).elim
end
end Pm

set_option Elab.async false
set_option linter.all false
set_option maxRecDepth 100000
set_option maxHeartbeats 600000
/-! Pm15: lambdas of two parameters, handed to a def that calls them. -/
namespace Pm
open PySem PySem.Spec PyProof.Rows L2

/-- a lambda's call, by its body -/
theorem lam_run {P : Program} {w : World} {K : PySem.W.Frag} {mg : Str → Option Value} {base : Heap} {F : NdefX.NF} {f : Addr} {pm ctv : Value} {body : Expr} {N ps fr : List Str} {A : Around} {outer : List PySem.Env} {s : Shared} {H : Hp} {us : List Value} {vs : List V} {ws : List (Option V)} {Q : VK} {k : Nat} {t : TE}
    (S : NdefX.NScope N ps fr F.scope) (hb : ∀ us : List Value, us.length = ps.length → bindArgs (PySem.W.kla_fn F.name F.qual F.params body F.scope F.cl pm (.ref F.c) ctv) ⟨us, []⟩ = pure (ps.zip us))
    (hr : Room (k + 1) A) (e0 : Env0 P w K mg base A outer s H) (hf : s.heap.get? f = some (PySem.W.kla_obj F.name F.qual F.params body F.scope F.cl pm F.c ctv)) (hc : H F.c = some (LamX.CodeO F.c F.qual)) (C : NdefX.CellsAt F.cl fr ws s.heap H) (r : Vals vs us) (hl : vs.length = ps.length)
    (hbody : Room k (A.deeper (NdefX.envF F f s.heap.objs.size)) → PE (NdefX.ncx CX0 P w K mg base N F f A outer s H E0) body t) (ht : t (NdefX.startF N vs ws) H Q) :
    codeAny (model P w) A (.call (.ref f) ⟨us, []⟩) (CR CX0 outer P w H s Q E0) s := by
  have lim : s.heap.NoLimit := e0.mod.nolimit.keeps fun b o e => (e0.bs b o e).1
  refine PySem.W.kla_callFunE hr.depth hf rfl S.co S.gen rfl (NdefX.codeO_at e0.hok hc) ?_
  rw [hb us (r.length.symm.trans hl)]
  refine wpAny_pure (wpAny_newFunctionEnv S.nocell (fun ⟨n, _⟩ hy => S.par n (List.of_mem_zip hy).1) (fun hp hns hsb => ⟨lim.fresh _ hsb, ?_⟩) S.kind)
  show codeAny _ _ (.expr body (NdefX.envF F f s.heap.objs.size)) _ _
  have I : Inv (NdefX.ncx CX0 P w K mg base N F f A outer s H E0) [] (NdefX.startF N vs ws) H { s with heap := hp, toks := s.toks + (ps.zip us).length } :=
    NdefX.inv_startN S hr.hd e0 hl r C hns fun b o e => hsb.extBut b o (Nat.ne_of_lt (Heap.lt_size e)) (Heap.get?_push_of_some _ e)
  refine PySem.W.kla_codeExpr (wpAny_mono ((hbody (hr.deeper _)).run [] _ _ H Q I ht) (fun v s2 q => ?_) fun e s2 q => q)
  obtain ⟨v2, H2, J, rv, q⟩ := q
  exact ⟨v2, H2, J.os, J.bare, J.base, J.hok, rv, q⟩
/-- what the lambda computes: its parameters, then what it has captured -/
def lamG (np n : Nat) (mb : Env → M D) (cap ds : List D) : M D := if ds.length = np then mb (ds.map some ++ (cap.map some ++ List.replicate (n - ds.length - cap.length) none)) else stuck
open Classical in
/-- x(..), x a name that holds the lambda at f -/
noncomputable def actM (i : Nat) (f c : Addr) (q : Str) (vs : List V) (g : List D → List D → M D) (m : Env → M (List D)) : Env → M D := fun env => match env[i]? with
  | some (some (.fn f' c' q' vs' cap)) => if f' = f ∧ c' = c ∧ q' = q ∧ vs' = vs then bnd (m env) (g cap) else stuck
  | _ => stuck
theorem start_env {K : PySem.W.Frag} {mg : Str → Option Value} {W : Wd} {N : List Str} {n : Nat} {vs ws : List V} {ds cap : List D} (hN : N.length = n) (i : IsVs K mg W vs ds) (j : IsVs K mg W ws cap) (hle : ds.length + cap.length ≤ n) :
    ERel K mg W (ds.map some ++ (cap.map some ++ List.replicate (n - ds.length - cap.length) none)) (NdefX.startF N vs (ws.map some)) := by
  have l1 := i.length
  have l2 := j.length
  unfold NdefX.startF
  refine ⟨by simp only [List.length_append, List.length_map, List.length_replicate]; omega, fun a d e => ?_⟩
  by_cases h1 : a < ds.length
  · rw [List.getElem?_append_left (by rw [List.length_map]; exact h1), List.getElem?_map] at e
    cases q : ds[a]? with
    | none => rw [q] at e; cases e
    | some d0 =>
      rw [q] at e; cases e
      obtain ⟨v, e1, e2⟩ := i.get q
      exact ⟨v, by rw [List.getElem?_append_left (by rw [List.length_map]; omega), List.getElem?_map, e1]; rfl, e2⟩
  · rw [List.getElem?_append_right (by rw [List.length_map]; omega), List.length_map] at e
    by_cases h2 : a - ds.length < cap.length
    · rw [List.getElem?_append_left (by rw [List.length_map]; exact h2), List.getElem?_map] at e
      cases q : cap[a - ds.length]? with
      | none => rw [q] at e; cases e
      | some d0 =>
        rw [q] at e; cases e
        obtain ⟨v, e1, e2⟩ := j.get q
        refine ⟨v, ?_, e2⟩
        rw [List.getElem?_append_right (by rw [List.length_map]; omega), List.getElem?_append_left (by simp only [List.length_map]; omega), List.getElem?_map, List.length_map, l1, e1]; rfl
    · rw [List.getElem?_append_right (by rw [List.length_map]; omega), List.getElem?_replicate] at e
      split at e <;> cases e
section
variable {X : Cx} {pins : List (Addr × Obj)} {σ : L2.St} {H : Hp} {s : Shared}
/-- where the lambda's body runs -/
abbrev lamNF (X : Cx) (params : Arguments) (scope : Scope) (c : Addr) : NdefX.NF := ⟨"<lambda>", X.env.qual ++ "<lambda>", params, [], scope, cloFrom X.env.cells scope.names [], c⟩
/-- the rule for x(..) in the body of the def that got the lambda -/
theorem dn_act {Ng Nl pl fr : List Str} {qg : Str} {sg scope : Scope} {g f c : Addr} {cdg pm ctv : Value} {params : Arguments} {body : Expr} {np nl k i : Nat} {a : Str} {e1 e2 : Expr} {m : Env → M (List D)} {mb : Env → M D} {ws : List V} {p1 p2 : Pos}
    (hf : s.heap.get? f = some (PySem.W.kla_obj "<lambda>" (X.env.qual ++ "<lambda>") params body scope (cloFrom X.env.cells scope.names []) pm c ctv)) (hfn : H f = none) (hfr : f ∉ frs X.stack) (C : NdefX.CellsAt (cloFrom X.env.cells scope.names []) fr (ws.map some) s.heap H)
    (S : NdefX.NScope Nl pl fr scope) (hNl : Nl.length = nl) (hpl : pl.length = np) (hsz : np + fr.length ≤ nl) (hb : ∀ us : List Value, us.length = pl.length → bindArgs (PySem.W.kla_fn "<lambda>" (X.env.qual ++ "<lambda>") params body scope (cloFrom X.env.cells scope.names []) pm (.ref c) ctv) ⟨us, []⟩ = pure (pl.zip us))
    (hr : Room (k + 1) (X.A.deeper (envOfC qg sg s.heap.objs.size g cdg)))
    (hbody : ∀ (A : Around) (outer : List PySem.Env) (s2 : Shared) (H2 : Hp), A.guards = X.A.guards → Room k (A.deeper (NdefX.envF (lamNF X params scope c) f s2.heap.objs.size)) → Dn (NdefX.ncx CX0 X.prog X.w X.K X.mg X.base Nl (lamNF X params scope c) f A outer s2 H2 E0) body mb)
    (hm : DnA (cxOf CX0 X.prog X.w X.K X.mg X.base Ng qg sg g cdg X.A X.stack s H E0).nox [e1, e2] m) (hN : Ng[i]? = some a) (hv : Vis sg a) (hd : (a == ("__debug__" : Str)) = false := by decide) (hcd : (a == ("__classdict__" : Str)) = false := by decide)
    (hse : starEach [e1, e2] (envOfC qg sg s.heap.objs.size g cdg) = (false, eval e1 (envOfC qg sg s.heap.objs.size g cdg)) :: starEach [e2] (envOfC qg sg s.heap.objs.size g cdg) := by rfl) (hpn : (backTo p2 (starEach [e2] (envOfC qg sg s.heap.objs.size g cdg))).any (·.1) = false := by rfl) :
    Dn (cxOf CX0 X.prog X.w X.K X.mg X.base Ng qg sg g cdg X.A X.stack s H E0).nox (.Call (.Name a p1) [e1, e2] [] p2) (actM i f c (X.env.qual ++ "<lambda>") ws (lamG np nl mb) m) := by
  refine ⟨⟨fun pz sz σz Hz Q Iz ⟨W, env, S0, er, sr, d, S', h, go⟩ => ?_⟩⟩
  unfold actM at h
  cases qe : env[i]? with
  | none => rw [qe] at h; cases h
  | some o =>
    cases o with
    | none => rw [qe] at h; cases h
    | some dd =>
      cases dd with
      | fn f' c' q' vs' cap =>
        rw [qe] at h
        simp only at h
        split at h
        · rename_i hc
          obtain ⟨rfl, rfl, rfl, rfl⟩ := hc
          obtain ⟨v, ev, iv⟩ := er.2 i _ qe
          cases iv with
          | fn hco icap =>
            obtain ⟨ds, S1, h1, h⟩ := bnd_some h
            refine wpAny_Call_Name_kw (thn ((pe_var (pos := p1) hN hv hd hcd).run pz sz σz Hz (fun v H1 => v = .ref f' ∧ H1 = Hz) Iz ⟨.ref f', ev, rfl, rfl⟩) fun u s1 ⟨v, H1, I1, r1, q1⟩ => ?_)
            obtain ⟨ev1, eH⟩ := q1
            subst ev1
            rw [eH] at I1
            obtain rfl : u = Value.ref f' := r1
            have at1 : ∀ {sx : Shared} {Hx : Hp} {σx : L2.St} {px : List (Addr × Obj)}, Inv (cxOf CX0 X.prog X.w X.K X.mg X.base Ng qg sg g cdg X.A X.stack s H E0).nox px σx Hx sx → sx.heap.get? f' = some (PySem.W.kla_obj "<lambda>" (X.env.qual ++ "<lambda>") params body scope (cloFrom X.env.cells scope.names []) pm c' ctv) :=
              fun Ix => Ix.base.keep f' _ hf hfn hfr fun z => nomatch (show f' ∈ ([] : List Addr) from z)
            refine PySem.W.callWith_F (first := []) ⟨_, _, _, _, at1 I1⟩ (thn (hm.pa.run p2 pz s1 σz Hz (fun vs2 H2 => ∃ W2, W.le W2 ∧ Frame W W2 Hz H2 ∧ StRel X.K X.mg W2 S1 H2 ∧ IsVs X.K X.mg W2 vs2 ds) I1 ⟨W, env, S0, er, sr, ds, S1, h1, fun W1 vs1 H1 le1 f1 s1 i1 => ⟨W1, le1, f1, s1, i1⟩⟩) fun us s2 ⟨vs2, H2, I2, rv, W2, le2, f2, st2, is2⟩ => ⟨⟨_, _, _, _, at1 I2⟩, ?_⟩) hse hpn
            show wpAny _ _ (call (.ref f') us) _ _ _
            unfold lamG at h
            split at h
            · rename_i hnp
              have un : Un (frs X.stack) [] H H2 s.heap s2.heap := I2.base
              have C2 : NdefX.CellsAt (cloFrom X.env.cells scope.names []) fr (vs'.map some) s2.heap H2 := by
                have kp : ∀ y b, (cloFrom X.env.cells scope.names []).lookup y = some b → ∀ v, s.heap.IsCell b v → s2.heap.IsCell b v := fun y b e v ⟨o, ho, hd⟩ => by
                  obtain ⟨sl, z⟩ := un.any ho (C.all y b e).1 (fun z => nomatch z)
                  exact ⟨_, z, hd⟩
                refine ⟨C.len, fun y b e => ?_, C.inj, fun n y e => ?_⟩
                · obtain ⟨n1, v, z⟩ := C.all y b e
                  obtain ⟨o, ho, _⟩ := id z
                  exact ⟨un.free b o ho n1 (fun z => nomatch z), v, kp y b e v z⟩
                · obtain ⟨b, hb1, hv1⟩ := C.has n y e
                  exact ⟨b, hb1, fun v q => let ⟨u, r, z⟩ := hv1 v q; ⟨u, r, kp y b hb1 _ z⟩⟩
              have clen := C.len
              rw [List.length_map] at clen
              have cl2 := icap.length
              refine call_end I2 (lam_run (F := lamNF X params scope c') S hb hr I2.env0 (at1 I2) (st2.zh _ _ (le2.z _ _ hco)) C2 rv (by rw [is2.length, hpl, hnp]) (t := tE X.K X.mg mb) (fun hr2 => (hbody (X.A.deeper (envOfC qg sg s.heap.objs.size g cdg)) (envOfC qg sg s.heap.objs.size g cdg :: X.stack) s2 H2 rfl hr2).pe) ⟨W2, _, S1, start_env hNl is2 (icap.mono le2) (by omega), st2, d, S', h, go.step sr le2 f2 st2⟩)
            · cases h
        · cases h
      | _ => rw [qe] at h; cases h
end
end Pm

set_option Elab.async false
set_option linter.all false
set_option maxRecDepth 100000
set_option maxHeartbeats 600000
/-! Pm16: a lambda made and handed over. -/
namespace Pm
open PySem PySem.Spec PyProof.Rows L2

section
variable {X : Cx} {pins : List (Addr × Obj)} {σ : L2.St} {H : Hp} {s : Shared}
theorem lam_new {c P : Addr} {q : Str} {ps : Array Value} {params : Arguments} {body : Expr} {scope : Scope} {pos : Pos} {E Q : Value → Shared → Prop} (I : Inv X pins σ H s) (TB : LamX.TabB X.base X.mg c P) (hcode : X.env.code = .ref c) (eq : q = X.env.qual ++ "<lambda>")
    (hP : H P = some (.tbl ps)) (ht : TriplesOk ps.toList) (ha : ∀ (pos : Pos) (cv : Value), codeAmong pos ps.toList = some cv → ∃ c, cv = .ref c ∧ H c = some (LamX.CodeO c q)) (hdef : defaultsOf params X.env = ([], [])) (hfree : ∀ y ∈ scope.names, y.2 = .free → ∃ c, X.env.cells.lookup y.1 = some c)
    (old : ∀ (f b : Addr) (pm ctv : Value) (s2 : Shared), Inv X pins σ H s2 → codeAmong pos ps.toList = some (.ref b) → s2.heap.get? f = some (PySem.W.kla_obj "<lambda>" q params body scope (cloFrom X.env.cells scope.names []) pm b ctv) → H f = none → f ∉ frs X.stack → Q (.ref f) s2)
    (new : ∀ (f b : Addr) (pm ctv : Value) (s2 : Shared), H b = none → Inv X pins σ (upd (upd H P (.tbl (ps ++ #[rawInt pos.line, rawInt pos.col, .ref b]))) b (LamX.CodeO b q)) s2 → s2.heap.get? f = some (PySem.W.kla_obj "<lambda>" q params body scope (cloFrom X.env.cells scope.names []) pm b ctv) →
      upd (upd H P (.tbl (ps ++ #[rawInt pos.line, rawInt pos.col, .ref b]))) b (LamX.CodeO b q) f = none → f ∉ frs X.stack → Q (.ref f) s2) :
    wpAny (model X.prog X.w) X.A (eval (.Lambda params body scope pos) X.env) Q E s := by
  subst eq
  have bP : s.heap.BuiltinsAt X.mg P := TB.bm.keeps I.bk
  have oP : s.heap.get? P = some { cls := .none, data := .fields ps } := I.hok P _ hP
  have apart : ∀ f, s.heap.objs.size ≤ f → f ∉ frs X.stack := fun f hf z => by
    rcases List.mem_cons.mp (I.stkSub _ z) with e | e
    · have l := I.lt
      rw [← e] at l
      exact Nat.lt_irrefl _ (Nat.lt_of_lt_of_le l hf)
    · exact I.nofs hf e
  refine PySem.W.kla_eval hdef ?_
  cases hc : codeAmong pos ps.toList with
  | some cv =>
    obtain ⟨b, rfl, hb⟩ := ha pos cv hc
    exact PySem.W.kla_makeFunctionHit (mg := X.mg) (c := c) (P := P) (ps := ps) (closure_ok hfree) I.ok.glob (I.mod.glob.keeps I.bk) hcode (TB.code.keeps I.bk) oP ht hc bP fun ctv h2 tk hx hsz =>
      old _ b _ ctv _ (I.kept fun a o e => Heap.get?_push_of_some _ (hx a o e)) hc (Heap.get?_push_size _ rfl) (I.hok.fresh hsz) (apart _ hsz)
  | none =>
    refine PySem.W.kla_makeFunction (mg := X.mg) (c := c) (P := P) (ps := ps) (closure_ok hfree) I.ok.glob (I.mod.glob.keeps I.bk) hcode (TB.code.keeps I.bk) oP ht hc TB.gP bP fun b ctv h2 tk hx hge hlt hrec htb => ?_
    obtain ⟨c2, oc, vs, t, e2, hoc, hd, hv⟩ := hrec
    cases e2
    have hsz : s.heap.objs.size ≤ h2.objs.size := Nat.le_trans hge (Nat.le_of_lt hlt)
    have lP := Heap.lt_size oP
    refine new h2.objs.size b _ ctv _ (I.hok.fresh hge) (LamX.inv_table (t' := tk) (more := #[rawInt pos.line, rawInt pos.col, .ref b]) (h' := h2.push _) I hP (fun a o ha e => Heap.get?_push_of_some _ (hx a o ha e)) (Heap.get?_push_of_some _ htb) hge ⟨oc, vs, t, Heap.get?_push_of_some _ hoc, hd, hv⟩) (Heap.get?_push_size _ rfl) ?_ (apart _ hsz)
    rw [upd_ne (Nat.ne_of_gt hlt), upd_ne (Nat.ne_of_gt (Nat.lt_of_lt_of_le lP hsz))]
    exact I.hok.fresh hsz
/-- is the table of x's code objects known? -/
def hasTab (x : Str) (S : List O) : Bool := S.any fun o => match o with
  | .tab y => y == x
  | _ => false
theorem hasTab_at {x : Str} {S : List O} (h : hasTab x S = true) : ∃ l : Nat, S[l]? = some (O.tab x) := by
  unfold hasTab at h
  obtain ⟨o, hm, ho⟩ := List.any_eq_true.mp h
  cases o with
  | tab y => obtain ⟨l, hl⟩ := List.mem_iff_getElem?.mp hm; exact ⟨l, by rw [hl, beq_iff_eq.mp (show (y == x) = true from ho)]⟩
  | _ => cases ho
/-- the table grows -/
theorem tab_grow {K : PySem.W.Frag} {mg : Str → Option Value} {W : Wd} {S : List O} {l : Nat} {x : Str} {b : Addr} {pos : Pos} {ps : Array Value} (st : StRel K mg W S H) (hl : S[l]? = some (.tab x)) (hP : H (W.r l) = some (.tbl ps)) (hb : H b = none) :
    let H1 := upd (upd H (W.r l) (.tbl (ps ++ #[rawInt pos.line, rawInt pos.col, .ref b]))) b (LamX.CodeO b (lamQ x))
    W.le (W.add b (LamX.CodeO b (lamQ x))) ∧ Frame W (W.add b (LamX.CodeO b (lamQ x))) H H1 ∧ StRel K mg (W.add b (LamX.CodeO b (lamQ x))) S H1 := by
  intro H1
  have hln : l < W.n := by rw [st.len]; exact (List.getElem?_eq_some_iff.mp hl).1
  have le := Wd.add_le (o := LamX.CodeO b (lamQ x)) st hb
  have same : ∀ a u, H a = some u → a ≠ W.r l → H1 a = some u := fun a u e h => by
    show upd _ _ _ a = _
    rw [upd_ne (ne_of_none e hb), upd_ne h]; exact e
  have znl : ∀ a u, W.Z a = some u → a ≠ W.r l := fun a u e z => by rw [z, st.zr l hln] at e; cases e
  refine ⟨le, ⟨fun a u e h => same a u e (Ne.symm (h l hln)), fun i h1 h2 => absurd (Nat.lt_of_lt_of_le h2 h1) (Nat.lt_irrefl _), fun a u e => ?_⟩, st.len, fun a u e => ?_, fun i hi => ?_, st.inj, fun i o e => ?_⟩
  · by_cases y : a = b
    · exact .inr (by rw [y]; exact hb)
    · exact .inl (by have e : upd W.Z b _ a = some u := e; rw [upd_ne y] at e; exact e)
  · have e : upd W.Z b _ a = some u := e
    by_cases y : a = b
    · subst y
      rw [upd_same] at e
      show upd _ _ _ a = _
      rw [upd_same]; exact e
    · rw [upd_ne y] at e
      exact same a u (st.zh _ _ e) (znl a u e)
  · show upd W.Z b _ (W.r i) = none
    obtain ⟨u, hu⟩ := st.at hi
    rw [upd_ne (ne_of_none hu hb)]; exact st.zr i hi
  · have hin : i < W.n := by rw [st.len]; exact (List.getElem?_eq_some_iff.mp e).1
    by_cases y : i = l
    · subst y
      rw [hl] at e; cases e
      obtain ⟨h1, ps', h2, h3, h4⟩ := st.ob i _ hl
      rw [hP] at h2; cases h2
      refine ⟨h1, ps ++ #[rawInt pos.line, rawInt pos.col, .ref b], ?_, ?_, fun pos2 cv hc => ?_⟩
      · show upd _ _ _ (W.r i) = _
        rw [upd_ne (ne_of_none hP hb), upd_same]
      · rw [Array.toList_append]
        exact PySem.TriplesOk_snoc _ _ _ _ h3
      · rw [Array.toList_append] at hc
        rcases LamX.among_app _ h3 hc with z | z
        · obtain ⟨c, e1, e2⟩ := h4 pos2 cv z
          exact ⟨c, e1, le.z _ _ e2⟩
        · exact ⟨b, z, upd_same⟩
    · obtain ⟨u, hu⟩ := st.at hin
      exact (st.ob i o e).mono le ((same _ _ hu fun z => y (st.inj i l hin hln z)).trans hu.symm)
def capM (js : List Nat) (env : Env) : Option (List D) := js.mapM fun j => env[j]?.join
theorem cap_is {K : PySem.W.Frag} {mg : Str → Option Value} {W : Wd} {env : Env} : ∀ {js : List Nat} {cap : List D}, ERel K mg W env σ → capM js env = some cap → ∃ ws : List V, IsVs K mg W ws cap ∧ js.map (NdefX.slotAt σ) = ws.map some
  | [], cap, er, h => by
    simp only [capM, List.mapM_nil] at h
    cases h
    exact ⟨[], .nil, rfl⟩
  | j :: r, cap, er, h => by
    simp only [capM, List.mapM_cons] at h
    cases q : env[j]?.join with
    | none => rw [q] at h; cases h
    | some d =>
      rw [q] at h
      cases q2 : capM r env with
      | none => unfold capM at q2; rw [q2] at h; cases h
      | some cr =>
        have q3 := q2
        unfold capM at q3
        rw [q3] at h
        cases h
        obtain ⟨ws, i, e⟩ := cap_is er q2
        have q4 : env[j]? = some (some d) := by
          cases z : env[j]? with
          | none => rw [z] at q; cases q
          | some o => rw [z] at q; exact congrArg some q
        obtain ⟨v, e1, e2⟩ := er.2 j d q4
        exact ⟨v :: ws, .cons e2 i, by rw [List.map_cons, List.map_cons, e, NdefX.slotAt_of e1]⟩
/-- x(e, lambda ..: ..): R, what x makes of its first argument, by what the lambda computes -/
def lamC (y : Str) (js : List Nat) (me : Env → M D) (R : List D → D → M D) : Env → M D := fun env => bnd (me env) fun d S => match capM js env with
  | some cap => if hasTab y S = true then R cap d S else none
  | none => none
theorem dn_lamcall {x y qual a : Str} {g c0 P : Addr} {st : Stmt} {fd : FuncData} {N ps Nl pl fr : List Str} {js : List Nat} {n np nl i kl j : Nat} {params : Arguments} {e body : Expr} {scope : Scope} {lpos p pos : Pos} {me mb : Env → M D} {R : (List D → M D) → D → M D}
    {mB : Addr → Addr → Str → List V → (List D → List D → M D) → MS} (F : L2.Fun X.K x qual st g fd) (hm : X.mg x = some (.ref g)) (kp : PySem.W.keepIn X.K (.ref g) = true) (bn : Binds X.K fd ps []) (Sc : FnScope N ps (defScope st)) (hN : N.length = n) (hps : ps.length = 2)
    (gd : X.A.guards = some []) (hr : Room j X.A) (hk : kl + 2 ≤ j) (he : Dn X e me) (hq : X.env.qual = y ++ ".<locals>.") (hcode : X.env.code = .ref c0) (ht : PySem.W.tabIn X.K y = some (c0, P)) (TB : LamX.TabB X.base X.mg c0 P)
    (Sl : NdefX.NScope Nl pl fr scope) (hNl : Nl.length = nl) (hpl : pl.length = np) (hsz : np + fr.length ≤ nl) (hdef : defaultsOf params X.env = ([], [])) (hfr : NdefX.ndefB X.env.scope scope fr = true) (hjs : js.map (fun j => X.N[j]?) = fr.map some)
    (hbl : ∀ (q : Str) (cl : List (Str × Addr)) (pm cv ctv : Value) (us : List Value), us.length = pl.length → bindArgs (PySem.W.kla_fn "<lambda>" q params body scope cl pm cv ctv) ⟨us, []⟩ = pure (pl.zip us))
    (hbody : ∀ (A : Around) (outer : List PySem.Env) (s2 : Shared) (H2 : Hp) (f c : Addr), A.guards = some [] → Room kl (A.deeper (NdefX.envF (lamNF X params scope c) f s2.heap.objs.size)) → Dn (NdefX.ncx CX0 X.prog X.w X.K X.mg X.base Nl (lamNF X params scope c) f A outer s2 H2 E0) body mb)
    (hZ : ∀ (cdv : Value) (s : Shared) (H : Hp) (f c : Addr) (q : Str) (ws : List V), Room (kl + 1) (X.A.deeper (envOfC qual (defScope st) s.heap.objs.size g cdv)) →
      (∀ {e1 e2 : Expr} {m : Env → M (List D)} {p1 p2 : Pos}, DnA (cxOf CX0 X.prog X.w X.K X.mg X.base N qual (defScope st) g cdv X.A X.stack s H E0).nox [e1, e2] m → starEach [e1, e2] (envOfC qual (defScope st) s.heap.objs.size g cdv) = (false, eval e1 (envOfC qual (defScope st) s.heap.objs.size g cdv)) :: starEach [e2] (envOfC qual (defScope st) s.heap.objs.size g cdv) →
        (backTo p2 (starEach [e2] (envOfC qual (defScope st) s.heap.objs.size g cdv))).any (·.1) = false → Dn (cxOf CX0 X.prog X.w X.K X.mg X.base N qual (defScope st) g cdv X.A X.stack s H E0).nox (.Call (.Name a p1) [e1, e2] [] p2) (actM i f c q ws (lamG np nl mb) m)) →
      Dss (cxOf CX0 X.prog X.w X.K X.mg X.base N qual (defScope st) g cdv X.A X.stack s H E0).nox (defBody st) (mB f c q ws (lamG np nl mb)))
    (hM : ∀ (f c : Addr) (q : Str) (ws : List V) (gm : List D → List D → M D) (cap : List D) (d : D) (S : List O) (r : D × List O), R (gm cap) d S = some r → bodyM n (mB f c q ws gm) [d, .fn f c q ws cap] S = some r)
    (hNa : N[i]? = some a) (hva : Vis (defScope st) a) (hda : (a == ("__debug__" : Str)) = false := by decide) (hca : (a == ("__classdict__" : Str)) = false := by decide) (hg : Gl X x := by rfl) (hdb : (x == ("__debug__" : Str)) = false := by decide)
    (h1 : starEach [e, .Lambda params body scope lpos] X.env = (false, eval e X.env) :: starEach [.Lambda params body scope lpos] X.env := by rfl) (h2 : (backTo pos (starEach [.Lambda params body scope lpos] X.env)).any (·.1) = false := by rfl)
    (h3 : backTo pos (starEach [e, .Lambda params body scope lpos] X.env) = (false, eval e X.env) :: (false, eval (.Lambda params body scope lpos) X.env) :: [] := by rfl) :
    Dn X (.Call (.Name x p) [e, .Lambda params body scope lpos] [] pos) (lamC y js me fun cap d => R (lamG np nl mb cap) d) := by
  refine ⟨⟨fun pins s σ H Q I ⟨W, env, S, er, sr, d, S', h, go⟩ => ?_⟩⟩
  obtain ⟨d0, S1, hm0, h⟩ := bnd_some h
  cases hcap : capM js env with
  | none => rw [hcap] at h; cases h
  | some cap =>
    rw [hcap] at h
    simp only at h
    split at h
    · rename_i hht
      obtain ⟨l, hl⟩ := hasTab_at hht
      obtain ⟨oc, od, kV, doc, pm0, an, cdv, ct, osl, efd, lk, hcd⟩ := F.ex
      subst efd
      refine wpAny_Call_Name_kw (ld_glob I hg hm ?_ hdb)
      refine PySem.W.callWith_K (h₀ := X.base) I.ok.mod.kin kp ?_ h1 h2
      rw [h3]
      have sf : ∀ y ∈ scope.names, y.2 = .free → ∃ c, X.env.cells.lookup y.1 = some c := fun y hy e => (NdefX.ndef_free hfr y hy e).elim (fun z => I.ok.has _ (.inl z)) fun z => I.ok.has _ (.inr z)
      have qeq : lamQ y = X.env.qual ++ "<lambda>" := by rw [hq]; rfl
      have tail : ∀ (f b : Addr) (pm ctv : Value) (s2 : Shared) (H2 : Hp) (W1 W2 : Wd) (v1 : V) (u : Value) (H1 : Hp), W.le W1 → Frame W W1 H H1 → StRel X.K X.mg W1 S1 H1 → IsV X.K X.mg W1 v1 d0 → RelV v1 u → W1.le W2 → Frame W1 W2 H1 H2 → StRel X.K X.mg W2 S1 H2 → W2.Z b = some (LamX.CodeO b (lamQ y)) →
          Inv X pins σ H2 s2 → s2.heap.get? f = some (PySem.W.kla_obj "<lambda>" (lamQ y) params body scope (cloFrom X.env.cells scope.names []) pm b ctv) → H2 f = none → f ∉ frs X.stack →
          wpAny (model X.prog X.w) X.A (call (.ref g) [u, .ref f]) (EP X pins σ Q) X.xe s2 := by
        intro f b pm ctv s2 H2 W1 W2 v1 u H1 le1 f1 st1 i1 rv le2 f2 st2 hb I2 hf hfn hff
        obtain ⟨ws, iw, ew⟩ := cap_is er hcap
        have caps := NdefX.cells_of I2 (NdefX.Caps.made (js := js) I2.ok (NdefX.ndef_free hfr) (NdefX.ndef_fr hfr) hjs)
        rw [ew] at caps
        rw [qeq] at hf
        refine call_end I2 (LamX.run_ofS lk hcd Sc (hr.mono hk) I2.env0 (bn s2 [u, .ref f] I2.kIn (by rw [hps]; rfl)) (vs := [v1, .ref f]) (.cons rv (.cons rfl .nil)) (by rw [hps]; rfl) fun hr2 => ?_)
        have dss := hZ cdv s2 H2 f b (X.env.qual ++ "<lambda>") ws hr2 fun {e1 e2 m p1 p2} hm2 ha2 hb2 => dn_act (a := a) (i := i) hf hfn hff caps Sl hNl hpl hsz (fun us hl => hbl _ _ _ _ _ us hl) hr2 (fun A outer s3 H3 gA hr3 => hbody A outer s3 H3 f b (gA.trans gd) hr3) hm2 hNa hva hda hca ha2 hb2
        refine ⟨_, dss.pss.nox, body_run (k := 2) (E := E0) hN ⟨W2, S1, [d0, .fn f b (lamQ y) ws cap], .cons (i1.mono le2) (.cons (.fn hb (iw.mono (le1.trans le2))) .nil), st2, rfl, d, S', ?_, (go.step sr le1 f1 st1).step st1 le2 f2 st2⟩⟩
        rw [qeq]
        exact hM f b _ ws (lamG np nl mb) cap d0 S1 _ h
      refine Calls.spliced_cons (thn (he.pe.run pins s σ H (fun v1 H1 => ∃ W1, W.le W1 ∧ Frame W W1 H H1 ∧ StRel X.K X.mg W1 S1 H1 ∧ IsV X.K X.mg W1 v1 d0) I ⟨W, env, S, er, sr, d0, S1, hm0, fun W1 v1 H1 le1 f1 s1 i1 => ⟨W1, le1, f1, s1, i1⟩⟩) fun u s1 ⟨v1, H1, I1, rv, W1, le1, f1, st1, i1⟩ => ?_)
      obtain ⟨⟨cc, hcc⟩, psA, hps2, hTr, hent⟩ := st1.ob l _ hl
      rw [ht] at hcc
      have eP : W1.r l = P := (congrArg Prod.snd (Option.some.inj hcc)).symm
      refine Calls.spliced_cons (lam_new (ps := psA) (q := lamQ y) I1 TB hcode qeq (by rw [← eP]; exact hps2) hTr (fun pos cv hc => (hent pos cv hc).imp fun c hh => ⟨hh.1, st1.zh _ _ hh.2⟩) hdef sf (fun f b pm ctv s2 I2 hin hf hfn hff => ?_) fun f b pm ctv s2 hbn I2 hf hfn hff => ?_)
      · refine Calls.spliced_nil ⟨I2.kIn, ?_⟩
        obtain ⟨c, e1, e2⟩ := hent _ _ hin
        cases e1
        exact tail f b pm ctv s2 H1 W1 W1 v1 u H1 le1 f1 st1 i1 rv (.refl _) (.refl _ _) st1 e2 I2 hf hfn hff
      · refine Calls.spliced_nil ⟨I2.kIn, ?_⟩
        rw [← eP] at I2 hfn
        obtain ⟨le2, f2, st2⟩ := tab_grow (pos := lpos) st1 hl hps2 hbn
        exact tail f b pm ctv s2 _ W1 _ v1 u H1 le1 f1 st1 i1 rv le2 f2 st2 upd_same I2 hf hfn hff
    · cases h
end
end Pm

set_option Elab.async false
set_option linter.all false
set_option maxRecDepth 100000
set_option maxHeartbeats 600000
/-! Pm17: first_wrong; short words for a program's printed derivations. -/
namespace Pm
open PySem PySem.Spec PyProof.Rows L2

/-! ### first_wrong(value, is_right) -/
def fwL (g : List D → M D) (all : List D) : List D → Nat → M D
  | [], _ => ret .non
  | d :: r, i => bnd (g [d, .tup (all.take i)]) fun b => bnd (asB b) fun k => if k = true then fwL g all r (i + 1) else ret (.int i)
def fwR (g : List D → M D) : D → M D
  | .tup ds => fwL g ds ds 0
  | _ => stuck
noncomputable def fwT (f c : Addr) (q : Str) (ws : List V) (g : List D → List D → M D) : Env → M Bool := notT (tst (actM 1 f c q ws g (consA (getv 3) (consA (slM (getv 0) (fun _ => ret none) (fun env => bnd (getv 2 env) asI)) (fun _ => ret [])))))
noncomputable def fwI (f c : Addr) (q : Str) (ws : List V) (g : List D → List D → M D) : MS := ifM (fwT f c q ws g) (fun env => bnd (getv 2 (bor env)) fun d => ret (.rt d)) (fun env => ret (.nx env))
noncomputable def fwB (f c : Addr) (q : Str) (ws : List V) (g : List D → List D → M D) : MS :=
  seqM (forM (fun env => bnd (consA (getv 0) (fun _ => ret []) env) enumD) (setTS [2, 3]) (fwI f c q ws g)) (fun env => bnd ((fun _ => ret .non) (bor env)) fun d => ret (.rt d))
theorem bnd_of {α β : Type} {m : M α} {f : α → M β} {S S1 : List O} {a : α} (h : m S = some (a, S1)) : bnd m f S = f a S1 := by unfold bnd; rw [h]
theorem cut_take {α : Type} (xs : List α) (i : Nat) (h : i ≤ xs.length) : cutG xs none (some (i : Int)) = xs.take i := by
  unfold cutG
  rw [HT.sIx_none, HT.sIx_nat, Nat.min_eq_left h]
  rfl
theorem fw_loop {f c : Addr} {q : Str} {ws : List V} {g : List D → List D → M D} {cap : List D} {all : List D} : ∀ (r : List D) (i : Nat) (o2 o3 : Option Slot) (S : List O) (z : D × List O), all.drop i = r → fwL (g cap) all r i S = some z →
    ∃ e, forL (setTS [2, 3]) (fwI f c q ws g) (r.mapIdx fun j d => .tpl [.int ((i + j : Nat) : Int), d]) [some (.val (.tup all)), some (.val (.fn f c q ws cap)), o2, o3] S = some (e, z.2) ∧ ((e = .rt z.1) ∨ (∃ o2 o3, e = .nx [some (.val (.tup all)), some (.val (.fn f c q ws cap)), o2, o3]) ∧ z.1 = .non)
  | [], i, o2, o3, S, z, hd, h => by
    cases h
    exact ⟨_, rfl, .inr ⟨⟨o2, o3, rfl⟩, rfl⟩⟩
  | d :: r, i, o2, o3, S, z, hd, h => by
    have hi : i ≤ all.length := by
      rcases Nat.lt_or_ge i all.length with q | q
      · exact Nat.le_of_lt q
      · rw [List.drop_eq_nil_of_le q] at hd; cases hd
    have hd2 : all.drop (i + 1) = r := by rw [← List.tail_drop, hd]; rfl
    simp only [fwL] at h
    obtain ⟨b, S1, h1, h⟩ := bnd_some h
    obtain ⟨k, S2, h2, h⟩ := bnd_some h
    obtain ⟨rfl, rfl⟩ := asB_some h2
    have em : (List.mapIdx (fun j d => D.tpl [.int ((i + j : Nat) : Int), d]) (d :: r)) = .tpl [.int (i : Int), d] :: r.mapIdx fun j d => .tpl [.int ((i + 1 + j : Nat) : Int), d] := by
      rw [List.mapIdx_cons]
      have e2 : (fun (j : Nat) (d : D) => D.tpl [.int ((i + (j + 1) : Nat) : Int), d]) = fun (j : Nat) (d : D) => D.tpl [.int ((i + 1 + j : Nat) : Int), d] := funext fun j => funext fun d => by rw [show i + (j + 1) = i + 1 + j by omega]
      show D.tpl [.int ((i + 0 : Nat) : Int), d] :: List.mapIdx (fun (j : Nat) (d : D) => D.tpl [.int ((i + (j + 1) : Nat) : Int), d]) r = _
      rw [e2]; rfl
    rw [em]
    have ht : fwT f c q ws g [some (.tup all), some (.fn f c q ws cap), some (.int (i : Int)), some d] S = some (!k, S2) := by
      have hc := cut_take all i hi
      simp [fwT, notT, tst, actM, consA, getv, lift, bnd, ret, slM, asI, asB, cutD, hc, h1]
    have hf : fwI f c q ws g [some (.val (.tup all)), some (.val (.fn f c q ws cap)), some (.val (.int (i : Int))), some (.val d)] S = (if k = true then some (.nx [some (.val (.tup all)), some (.val (.fn f c q ws cap)), some (.val (.int (i : Int))), some (.val d)], S2) else some (.rt (.int i), S2)) := by
      have hbor : bor [some (.val (.tup all)), some (.val (.fn f c q ws cap)), some (.val (.int (i : Int))), some (.val d)] = [some (.tup all), some (.fn f c q ws cap), some (.int (i : Int)), some d] := rfl
      simp only [fwI, ifM, hbor]
      rw [bnd_of ht]
      cases k <;> rfl
    have hs : setTS [2, 3] (.tpl [.int (i : Int), d]) [some (.val (.tup all)), some (.val (.fn f c q ws cap)), o2, o3] = some [some (.val (.tup all)), some (.val (.fn f c q ws cap)), some (.val (.int (i : Int))), some (.val d)] := by
      simp [setTS, setAllS]
    cases k with
    | false =>
      simp only [Bool.false_eq_true, if_false] at h hf
      cases h
      refine ⟨.rt (.int i), ?_, .inl rfl⟩
      simp only [forL, hs]
      rw [bnd_of hf]; rfl
    | true =>
      simp only [if_true] at h hf
      obtain ⟨e, g1, g2⟩ := fw_loop r (i + 1) _ _ S2 z hd2 h
      refine ⟨e, ?_, g2⟩
      simp only [forL, hs]
      rw [bnd_of hf]; exact g1
theorem fw_law {f c : Addr} {q : Str} {ws : List V} {g : List D → List D → M D} {cap : List D} {d : D} {S : List O} {r : D × List O} (h : fwR (g cap) d S = some r) : bodyM 4 (fwB f c q ws g) [d, .fn f c q ws cap] S = some r := by
  cases d with
  | tup all =>
    obtain ⟨e, h1, h2⟩ := fw_loop (f := f) (c := c) (q := q) (ws := ws) (g := g) (cap := cap) all 0 none none S r rfl h
    simp only [Nat.zero_add] at h1
    obtain ⟨r1, r2⟩ := r
    have a1 : forM (fun env => bnd (consA (getv 0) (fun _ => ret []) env) enumD) (setTS [2, 3]) (fwI f c q ws g) (env0 4 [.tup all, .fn f c q ws cap]) S = some (e, r2) := by
      refine (bnd_of (a := all.mapIdx fun i d => .tpl [.int (i : Nat), d]) (S1 := S) rfl).trans h1
    rcases h2 with rfl | ⟨⟨o2, o3, rfl⟩, h3⟩
    · exact (bnd_of (show fwB f c q ws g (env0 4 [.tup all, .fn f c q ws cap]) S = some (.rt r1, r2) from (bnd_of a1).trans rfl)).trans rfl
    · simp only at h3
      subst h3
      exact (bnd_of (show fwB f c q ws g (env0 4 [.tup all, .fn f c q ws cap]) S = some (.rt .non, r2) from (bnd_of a1).trans rfl)).trans rfl
  | _ => cases h
end Pm

set_option Elab.async false
set_option linter.all false
set_option maxRecDepth 100000
set_option maxHeartbeats 600000
/-! Pm18: a law's end with tables; short words for a program's printed derivations. -/
namespace Pm
open PySem PySem.Spec PyProof.Rows L2

/-! ### a law's end with tables of code objects -/
abbrev Tab3 := Str × Addr × Addr
section
variable {P : Program} {w : World} {K : PySem.W.Frag} {mg mb : Str → Option Value} {k : Nat} {fa a : Addr} {fd : FuncData} {x : Str} {sp : Sp} {s₁ : Shared} {vs : List Value} {ns : List Int} {tabs : List Tab3}
/-- what the end asks of a table -/
structure TabOk (K : PySem.W.Frag) (p : Tab3) : Prop where
  ix : PySem.W.tabIn K p.1 = some p.2
  hd : PySem.W.codeHdIn K p.2.1 p.2.2 = true
  nk : K.lookup p.2.2 = none
structure HLawT (P : Program) (w : World) (K : PySem.W.Frag) (tabs : List Tab3) (s₁ : Shared) (a : Addr) (ns : List Int) (H : Hp) : Prop where
  seq : SqS K H a ns
  ok : HOk P w H s₁.heap
  at_ : ∀ b, H b ≠ none → b = a ∨ b ∈ tabs.map (·.2.2)
  nk : H a ≠ none → K.lookup a = none
  fr : ∀ u, H a = some u → ∃ o xs, u = .frz o (.lst xs)
  tb : ∀ p ∈ tabs, H p.2.2 = some (.tbl #[])
theorem end_coreT (KX : K.In s₁.heap) (n1 : s₁.heap.Ns mainGlobals mg) (n2 : s₁.heap.Ns builtinsNs mb) (n3 : ∀ x : Str, x ≠ "__name__" → mb x = bootBuiltins x) (n4 : s₁.heap.NoLimit) (hg : s₁.gens = #[]) (ha : s₁.heap.get? a = some { cls := .type "list", data := .seq vs.toArray }) (hr : Room k callerA)
    (tk : ∀ p ∈ tabs, TabOk K p) (te : ∀ p ∈ tabs, s₁.heap.get? p.2.2 = some { cls := .none, data := .fields #[] })
    (hbm : ∃ (bm : Addr) (ob : Obj), mg "__builtins__" = some (.ref bm) ∧ bm ≠ builtinsNs ∧ s₁.heap.get? bm = some ob ∧ ob.cls = .type "module" ∧ ob.dict = some builtinsNs ∧ ob.data = .plain)
    (F : ∀ base : Heap, K.In base → base.Ns mainGlobals mg → (∀ p ∈ tabs, LamX.TabB base mg p.2.1 p.2.2) → FnG P w K mg base k fa fd [x] sp) (bt : ∀ (s : Shared) (u : Value), BindsTo s fd ⟨[u], []⟩ [(x, u)]) {H : Hp} (hH : HLawT P w K tabs s₁ a ns H) (hsp : sp [.ref a] H (fun v _ => v = .bl true) E0) :
    codeAny (model P w) callerA (.call (.ref fa) ⟨[.ref a], []⟩) (fun r s' => r = .ok (.ret (.bool true)) ∧ OldK s₁.heap s'.heap ∧ s'.os = s₁.os ∧ AllBare s'.gens) s₁ := by
  obtain ⟨hS, hok, hA, hK, hF, hTb⟩ := hH
  have free : ∀ (b : Addr) (ob : Obj), s₁.heap.get? b = some ob → (∀ its n, ob.data ≠ .seq its n) → ob.data ≠ .fields #[] → H b = none := fun b ob e h1 h2 => by
    cases q : H b with
    | none => rfl
    | some u =>
      rcases hA b (by rw [q]; exact Option.some_ne_none _) with z | z
      · rw [z, ha] at e; cases e; exact absurd rfl (h1 _ _)
      · obtain ⟨p, hp, ep⟩ := List.mem_map.mp z
        rw [← ep, te p hp] at e; cases e; exact absurd rfl h2
  have nsB : ∀ {b m}, s₁.heap.Ns b m → (hidT s₁.heap H).Ns b m := fun {b m} ⟨ob, es, ep, e1, e2, r⟩ => ⟨ob, es, ep, hidT_get e1 (free b ob e1 (fun _ _ z => by rw [e2] at z; cases z) (fun z => by rw [e2] at z; cases z)), e2, r⟩
  have kB : K.In (hidT s₁.heap H) := fun b ob e => hidT_get (KX b ob e) (by
    cases q : H b with
    | none => rfl
    | some u =>
      rcases hA b (by rw [q]; exact Option.some_ne_none _) with z | z
      · rw [z, hK (by rw [← z, q]; exact Option.some_ne_none _)] at e; cases e
      · obtain ⟨p, hp, ep⟩ := List.mem_map.mp z
        rw [← ep, (tk p hp).nk] at e; cases e)
  have TB : ∀ p ∈ tabs, LamX.TabB (hidT s₁.heap H) mg p.2.1 p.2.2 := fun p hp => by
    refine ⟨PySem.W.codeHd_of_K kB (tk p hp).hd, ?_, fun z => ?_⟩
    · obtain ⟨bm, ob, b1, b2, b3, b4, b5, b6⟩ := hbm
      refine ⟨bm, ob, b1, b2, fun q => ?_, fun q => ?_, hidT_get b3 (free bm ob b3 (fun _ _ z => by rw [b6] at z; cases z) (fun z => by rw [b6] at z; cases z)), b4, b5, b6⟩
      · obtain ⟨o, es, ep, e, hd, _⟩ := n1
        rw [q, e] at b3; cases b3; rw [hd] at b6; cases b6
      · rw [q, te p hp] at b3; cases b3; cases b6
    · obtain ⟨o, es, ep, e, hd, _⟩ := n1
      rw [z, te p hp] at e; cases e; cases hd
  obtain ⟨mc, l1, l2⟩ := n4
  have e0 : Env0 P w K mg (hidT s₁.heap H) callerA [] s₁ H :=
    { frames := rfl, mod := ⟨kB, nsB n1, ⟨mb, nsB n2, n3⟩, ⟨mc, nsB l1, l2⟩⟩, bs := fun b ob e => of_hidT e, bsz := Nat.le_of_eq (hidT_size _ _), funs := trivial, frf := (fun b hb => by cases (show b ∈ ([] : List Addr) from hb)), hok := hok, bare := .of_eq hg }
  have run := (F _ kB (nsB n1) TB).run callerA [] s₁ H ⟨[.ref a], []⟩ [.ref a] [.ref a] (fun v _ => v = .bl true) E0 rfl hr e0 (bt s₁ (.ref a)) (.cons rfl .nil) hsp
  refine codeAny_mono run fun r s' q => ?_
  match r, q with
  | .error _, q => exact (show False from q).elim
  | .ok .next, q => exact (show False from q).elim
  | .ok .brk, q => exact (show False from q).elim
  | .ok .cont, q => exact (show False from q).elim
  | .ok (.ret u), q =>
    obtain ⟨v, H', os, bare, un, hok', rv, ev⟩ := q
    cases (show v = V.bl true from ev)
    cases (show u = Value.bool true from rv)
    have keep : ∀ b ob, b ∉ tabs.map (·.2.2) → s₁.heap.get? b = some ob → s'.heap.get? b = some ob := fun b ob nb e => by
      cases c : H b with
      | none => exact un.keep b ob e c (fun z => by cases (show b ∈ ([] : List Addr) from z)) (fun z => by cases z)
      | some u =>
        rcases hA b (by rw [c]; exact Option.some_ne_none _) with hb | hb
        · subst hb
          obtain ⟨o₀, xs, rfl⟩ := hF u c
          have z := un.frzs b o₀ _ c
          have y1 := (hok b _ c).1
          have y2 := (hok' b _ z).1
          rw [e] at y1; cases y1
          exact y2
        · exact absurd hb nb
    have grown : ∀ p ∈ tabs, ∃ more : Array Value, s'.heap.get? p.2.2 = some { cls := .none, data := .fields more } := fun p hp => by
      obtain ⟨more, z⟩ := un.tbls p.2.2 #[] (hTb p hp)
      exact ⟨_, hok' p.2.2 _ z⟩
    refine ⟨rfl, ⟨fun b o e => ?_, fun b o e => ?_⟩, os, bare⟩
    · by_cases hb : b ∈ tabs.map (·.2.2)
      · obtain ⟨p, hp, ep⟩ := List.mem_map.mp hb
        obtain ⟨more, hm⟩ := grown p hp
        rw [← ep] at e ⊢
        rw [te p hp] at e
        cases e
        have cd : PySem.W.CodeHd s₁.heap p.2.1 p.2.2 := PySem.W.codeHd_of_K KX (tk p hp).hd
        exact .inr (.inl ⟨(cd.tab (te p hp)).isCodeTable, rfl, #[], more, rfl, by rw [Array.empty_append]; exact hm⟩)
      · exact .inl (keep b o hb e)
    · by_cases hb : b ∈ tabs.map (·.2.2)
      · obtain ⟨p, hp, ep⟩ := List.mem_map.mp hb
        obtain ⟨more, hm⟩ := grown p hp
        exact ⟨_, by rw [← ep]; exact hm⟩
      · exact ⟨o, keep b o hb e⟩
theorem st_tabs {H : Hp} {Z : Hp} (hZ : ∀ b o, Z b = some o → H b = some o) (tk : ∀ p ∈ tabs, TabOk K p) (nd : (tabs.map (·.2.2)).Nodup) (hz : ∀ p ∈ tabs, Z p.2.2 = none) (hT : ∀ p ∈ tabs, H p.2.2 = some (.tbl #[])) :
    StRel K mg ⟨Z, fun l => (tabs.map (·.2.2)).getD l 0, tabs.length⟩ (tabs.map fun p => .tab p.1) H := by
  have rl : ∀ l (hl : l < tabs.length), (tabs.map (·.2.2)).getD l 0 = (tabs[l]).2.2 := fun l hl => by
    rw [List.getD_eq_getElem?_getD, List.getElem?_map, List.getElem?_eq_getElem hl]; rfl
  refine ⟨by rw [List.length_map], hZ, fun l hl => ?_, fun l l' h1 h2 e => ?_, fun l o e => ?_⟩
  · show Z ((tabs.map (·.2.2)).getD l 0) = none
    rw [rl l hl]; exact hz _ (List.getElem_mem _)
  · have e : (tabs.map (·.2.2)).getD l 0 = (tabs.map (·.2.2)).getD l' 0 := e
    rw [rl l h1, rl l' h2] at e
    exact (List.getElem_inj (h₀ := by rw [List.length_map]; exact h1) (h₁ := by rw [List.length_map]; exact h2) nd).mp (by rw [List.getElem_map, List.getElem_map]; exact e)
  · rw [List.getElem?_map] at e
    by_cases hl : l < tabs.length
    · rw [List.getElem?_eq_getElem hl] at e
      cases e
      show (∃ c, PySem.W.tabIn K (tabs[l]).1 = some (c, (tabs.map (·.2.2)).getD l 0)) ∧ TabW _ H ((tabs.map (·.2.2)).getD l 0) _
      rw [rl l hl]
      refine ⟨⟨_, (tk _ (List.getElem_mem hl)).ix⟩, #[], hT _ (List.getElem_mem hl), True.intro, fun pos cv hc => ?_⟩
      have z : codeAmong pos [] = some cv := hc
      simp [codeAmong] at z
    · rw [List.getElem?_eq_none (by omega)] at e; cases e
/-- the goal that k_head leaves, from the law's promise; L: the defs whose lambdas it makes -/
theorem law_endT {l : PySem.W.OpenLaw} {n k : Nat} {q : Program} {loose : List Str} {XP : (Str → Option Value) → Heap → Prop} {YP : World → Heap → Prop} {d : DefRec} {K : Params → PySem.W.Frag} {x : Str} {C : List D → M D} (L : List Str)
    (hn : l.most = some n) (hn2 : n ≤ sizeLine) (hdf : d.params.defaults = []) (hr : Room k callerA) (hrec : (L.all fun x => (recsOf q).any fun e => e.name == x) = true) (hY : ∀ (w : World) (h : Heap), YP w h → (K w.params).In h)
    (F : ∀ (w : World) (mg : Str → Option Value) (fa : Addr) (h : Heap), (K w.params).In h → h.Ns mainGlobals mg → mg d.name = some (.ref fa) →
      ∃ (fd : FuncData) (tabs : List Tab3), (∀ (s : Shared) (u : Value), BindsTo s fd ⟨[u], []⟩ [(x, u)]) ∧ tabs.map (·.1) = L ∧ (∀ p ∈ tabs, TabOk (K w.params) p) ∧ (tabs.map (·.2.2)).Nodup ∧
        ∀ base : Heap, (K w.params).In base → base.Ns mainGlobals mg → (∀ p ∈ tabs, LamX.TabB base mg p.2.1 p.2.2) → FnG l.prog w (K w.params) mg base k fa fd [x] (spF (K w.params) mg 1 C))
    (hsp : ∀ ns : List Int, ns.length ≤ n → ∃ S', C [.scr ns] (L.map O.tab) = some (.bl true, S')) :
    PySem.W.WalkO q loose XP YP l.row.toRowW d [] (fun f vs => PySem.call f vs) := by
  refine Att.attach_call hn hdf fun w s₀ s₁ mg mb fa o pm cd doc a vs ns G Y ho hd hcd hmg hobj hints hlen hg => ?_
  have KX := hY w _ Y
  obtain ⟨fd, tabs, bt, hL, tk, nd, hF⟩ := F w mg fa _ KX G.T.g hmg
  have hz : ns.length ≤ sizeLine := Nat.le_trans hlen hn2
  have te : ∀ p ∈ tabs, s₁.heap.get? p.2.2 = some { cls := .none, data := .fields #[] } := fun p hp => by
    have hx : p.1 ∈ L := by rw [← hL]; exact List.mem_map_of_mem hp
    have ha := List.all_eq_true.mp hrec _ hx
    cases hf : (recsOf q).find? (fun e => e.name == p.1) with
    | none =>
      obtain ⟨e, he, hn⟩ := List.any_eq_true.mp ha
      exact absurd hn (by simpa using List.find?_eq_none.mp hf e he)
    | some dr => exact (PySem.W.tab_of G.T KX hf (tk p hp).ix).2
  have nT : ∀ p ∈ tabs, p.2.2 ≠ a := fun p hp e => by
    have z := te p hp
    rw [e, hobj] at z; cases z
  have nM : a ∉ tabs.map (·.2.2) := fun z => by
    obtain ⟨p, hp, e⟩ := List.mem_map.mp z
    exact nT p hp e
  obtain ⟨S', hC⟩ := hsp ns hlen
  have hS0 : L.map O.tab = tabs.map fun p => O.tab p.1 := by rw [← hL, List.map_map]; rfl
  rw [hS0] at hC
  have fin : ∀ H : Hp, HLawT l.prog w (K w.params) tabs s₁ a ns H → spF (K w.params) mg 1 C [.ref a] H (fun v _ => v = .bl true) E0 := fun H hH => by
    have hZ : ∀ b o, (fun b => if b = a then H a else none) b = some o → H b = some o := fun b o e => by
      by_cases hb : b = a
      · simp only [hb, if_true] at e; rw [hb]; exact e
      · simp only [hb, if_false] at e; cases e
    refine ⟨_, _, [.scr ns], .cons (.scr (hH.seq.mono fun o e => ?_)) .nil, st_tabs (Z := fun b => if b = a then H a else none) hZ tk nd (fun p hp => if_neg (nT p hp)) hH.tb, rfl, .bl true, S', hC, fun W' v H' _ _ _ i => ?_⟩
    · show (if a = a then H a else none) = _
      rw [if_pos rfl]; exact e
    · cases i; rfl
  cases kk : (K w.params).lookup a with
  | some ob =>
    have e := KX a ob kk
    rw [hobj] at e
    cases e
    let H : Hp := fun b => if b ∈ tabs.map (·.2.2) then some (.tbl #[]) else none
    have Hn : ∀ b, b ∉ tabs.map (·.2.2) → H b = none := fun b hb => if_neg hb
    have hH : HLawT l.prog w (K w.params) tabs s₁ a ns H := by
      refine ⟨.inr ⟨_, vs.toArray, _, kk, rfl, rfl, rfl, by rw [List.size_toArray, hints.length]; exact hz, vals_ints hints⟩, fun b u z => ?_, fun b z => ?_, fun z => absurd (Hn a nM) z, fun u z => ?_, fun p hp => if_pos (List.mem_map_of_mem hp)⟩
      · by_cases hb : b ∈ tabs.map (·.2.2)
        · have z2 : (if b ∈ tabs.map (·.2.2) then some (HO.tbl #[]) else none) = some u := z
          rw [if_pos hb] at z2; cases z2
          obtain ⟨p, hp, e⟩ := List.mem_map.mp hb
          rw [← e]; exact te p hp
        · rw [Hn b hb] at z; cases z
      · by_cases hb : b ∈ tabs.map (·.2.2)
        · exact .inr hb
        · exact absurd (Hn b hb) z
      · rw [Hn a nM] at z; cases z
    exact end_coreT KX G.T.g G.T.b G.T.builtins G.T.nolimit hg hobj hr tk te G.T.bmain hF bt hH (fin _ hH)
  | none =>
    let H : Hp := fun b => if b = a then some (.frz { cls := .type "list", data := .seq vs.toArray } (.lst (ns.map V.int))) else if b ∈ tabs.map (·.2.2) then some (.tbl #[]) else none
    have Ha : H a = some (.frz { cls := .type "list", data := .seq vs.toArray } (.lst (ns.map V.int))) := if_pos rfl
    have Ht : ∀ b, b ∈ tabs.map (·.2.2) → H b = some (.tbl #[]) := fun b hb => (if_neg (fun z : b = a => nM (z ▸ hb))).trans (if_pos hb)
    have Hn : ∀ b, b ≠ a → b ∉ tabs.map (·.2.2) → H b = none := fun b h1 h2 => (if_neg h1).trans (if_neg h2)
    have hH : HLawT l.prog w (K w.params) tabs s₁ a ns H := by
      refine ⟨.inl ⟨_, Ha⟩, fun b u e => ?_, fun b hb => ?_, fun _ => kk, fun u e => ?_, fun p hp => Ht _ (List.mem_map_of_mem hp)⟩
      · by_cases hb : b = a
        · subst hb
          rw [Ha] at e; cases e
          exact ⟨hobj, by rw [List.length_map]; exact hz, vs, _, vals_ints hints, hobj⟩
        · by_cases hb2 : b ∈ tabs.map (·.2.2)
          · rw [Ht b hb2] at e; cases e
            obtain ⟨p, hp, ep⟩ := List.mem_map.mp hb2
            rw [← ep]; exact te p hp
          · rw [Hn b hb hb2] at e; cases e
      · by_cases hb2 : b = a
        · exact .inl hb2
        · by_cases hb3 : b ∈ tabs.map (·.2.2)
          · exact .inr hb3
          · exact absurd (Hn b hb2 hb3) hb
      · rw [Ha] at e; cases e; exact ⟨_, _, rfl⟩
    exact end_coreT KX G.T.g G.T.b G.T.builtins G.T.nolimit hg hobj hr tk te G.T.bmain hF bt hH (fin _ hH)
end

/-! ### short words -/
/-- a constant of the module -/
def Cst (K : PySem.W.Frag) (mg : Str → Option Value) (x : Str) (d : D) : Prop := ∃ u v, mg x = some u ∧ RelV v u ∧ ∀ W, IsV K mg W v d
section
variable {X : Cx} {e : Expr} {es : List Expr} {m : Env → M (List D)} {pos p : Pos}
theorem dn_cst {x : Str} {d : D} (h : Cst X.K X.mg x d) (hg : Gl X x := by rfl) (hd : (x == ("__debug__" : Str)) = false := by decide) : Dn X (.Name x pos) (fun _ => ret d) := by
  obtain ⟨u, v, h1, h2, h3⟩ := h
  exact dn_glob h1 h2 h3 hg hd
/-- a list display as a new shared list -/
def shareD (ds : List D) : M D := fun S => if D.pures ds = true then some (.ref S.length, S ++ [.lst ds]) else none
theorem DnL.share (h : DnL X e m) : Dn X e (fun env => bnd (m env) shareD) := ⟨PE.mono h.pe fun σ H Q ⟨W, env, S, er, s, d, S', h, g⟩ => by
  obtain ⟨ds, S1, h1, h⟩ := bnd_some h
  unfold shareD at h
  split at h
  · rename_i hp
    cases h
    refine ⟨W, env, S, er, s, ds, S1, h1, fun W1 a vs H1 le1 f1 s1 ha ia za ra na => ?_⟩
    let W2 : Wd := { Z := W1.Z, r := fun l => if l = W1.n then a else W1.r l, n := W1.n + 1 }
    have le2 : W1.le W2 := ⟨fun _ _ h => h, Nat.le_succ _, fun l hl => if_neg (Nat.ne_of_lt hl)⟩
    have rn : W2.r W1.n = a := if_pos rfl
    refine g W2 (.ref a) H1 (le1.trans le2) ⟨f1.kp, fun l hl hl2 => ?_, f1.fz⟩ ⟨?_, s1.zh, fun l hl => ?_, fun l l' hl hl' e => ?_, fun l o e => ?_⟩ ?_
    · have hl2 : l < W1.n + 1 := hl2
      by_cases q : l = W1.n
      · rw [q, rn]; exact na
      · rw [le2.r l (by omega)]; exact f1.fr l hl (by omega)
    · show W1.n + 1 = _
      rw [List.length_append, s1.len]; rfl
    · have hl : l < W1.n + 1 := hl
      by_cases q : l = W1.n
      · rw [q, rn]; exact za
      · rw [le2.r l (by omega)]; exact s1.zr l (by omega)
    · have hl : l < W1.n + 1 := hl
      have hl' : l' < W1.n + 1 := hl'
      by_cases q : l = W1.n
      · by_cases q' : l' = W1.n
        · omega
        · rw [q, rn, le2.r l' (by omega)] at e
          exact absurd e.symm (ra l' (by omega))
      · by_cases q' : l' = W1.n
        · rw [q', rn, le2.r l (by omega)] at e
          exact absurd e (ra l (by omega))
        · rw [le2.r l (by omega), le2.r l' (by omega)] at e
          exact s1.inj l l' (by omega) (by omega) e
    · by_cases q : l < S1.length
      · rw [List.getElem?_append_left q] at e
        rw [le2.r l (by rw [s1.len]; exact q)]
        exact (s1.ob l o e).mono le2 rfl
      · have q3 : l = S1.length := by
          rw [List.getElem?_append_right (Nat.le_of_not_lt q)] at e
          cases z : l - S1.length with
          | zero => omega
          | succ m => rw [z] at e; simp at e
        subst q3
        rw [List.getElem?_append_right (Nat.le_refl _), Nat.sub_self] at e
        cases e
        rw [← s1.len, rn]
        exact ⟨vs, ha, ia.mono le2, hp⟩
    · have i : IsV X.K X.mg W2 (.ref (W2.r W1.n)) (.ref W1.n) := .ref (Nat.lt_succ_self _)
      rw [rn, s1.len] at i
      exact i
  · cases h⟩
end
/-- fnG_ok, the code object told -/
theorem fnG_okT {P : Program} {w : World} {K : PySem.W.Frag} {mg : Str → Option Value} {base : Heap} {x qual : Str} {st : Stmt} {f : Addr} {fd : FuncData} {N ps : List Str} {k n : Nat} {m : MS} (F : L2.Fun K x qual st f fd) (Sc : FnScope N ps (defScope st)) (hN : N.length = n)
    (hb : ∀ (cdv : Value) (A : Around) (fr : List PySem.Env) (s : Shared) (H : Hp) (E : XK), fd.code = cdv → A.guards = some [] → Room k (A.deeper (envOfC qual (defScope st) s.heap.objs.size f cdv)) → Dss (cxOf CX0 P w K mg base N qual (defScope st) f cdv A fr s H E).nox (defBody st) m) :
    FnG P w K mg base (k + 1) f fd ps (spF K mg ps.length (bodyM n m)) := by
  have hlen : ∀ vs H Q E, spF K mg ps.length (bodyM n m) vs H Q E → vs.length = ps.length := fun vs H Q E ⟨W, S, ds, i, _, hl, _⟩ => i.length.trans hl
  obtain ⟨oc, od, kV, doc, pm, an, cdv, ct, osl, efd, lk, hcd⟩ := F.ex
  subst efd
  exact ⟨hlen, fun A fr s H as us vs Q E gd hr e0 bt rv sp => LamX.run_ofS lk hcd Sc hr e0 bt rv (hlen _ _ _ _ sp) fun hr2 => ⟨_, (hb cdv A fr s H E rfl gd hr2).pss.nox, body_run hN sp⟩⟩
/-- the code object of the def x, by its table -/
theorem tab_code {K : PySem.W.Frag} {mg : Str → Option Value} {h : Heap} {x qual : Str} {st : Stmt} {f c P : Addr} {fd : FuncData} (KX : K.In h) (G : h.Ns mainGlobals mg) (F : L2.Fun K x qual st f fd) (hm : mg x = some (.ref f)) (ht : PySem.W.tabIn K x = some (c, P)) : fd.code = .ref c := by
  obtain ⟨oc, od, kV, doc, pm, an, cdv, ct, osl, efd, lk, hcd⟩ := F.ex
  unfold PySem.W.tabIn at ht
  split at ht
  · rename_i f2 hf2
    have e := PySem.W.mg_of KX G hf2
    rw [hm] at e; cases e
    split at ht
    · rename_i h2
      rw [lk] at h2; cases h2
      split at ht
      · rename_i c2 hc2
        split at ht
        · split at ht
          · cases ht; exact hc2
          · cases ht
        · cases ht
      · cases ht
    · cases ht
  · cases ht
theorem un66 {k : Nat} {A : Around} (hr : Room k A) : A.units + 66 < cLine := by have := hr.un; omega
theorem un65 {k : Nat} {A : Around} (hr : Room k A) : A.units + 65 < cLine := by have := hr.un; omega
theorem un64 {k : Nat} {A : Around} (hr : Room k A) : A.units + 64 < cLine := by have := hr.un; omega
theorem un1 {k : Nat} {A : Around} (hr : Room k A) : A.units + 1 < cLine := by have := hr.un; omega
end Pm

set_option Elab.async false
set_option linter.all false
set_option maxRecDepth 100000
set_option maxHeartbeats 600000
/-! Pm19: the rules, their readings by name (what a printed derivation uses). -/
namespace Pm
open PySem PySem.Spec PyProof.Rows L2

section
variable {X : Cx} {a b e e2 tg : Expr} {es : List Expr} {m : Env → M (List D)} {ma mb me : Env → M D} {pos p p2 : Pos} {x : Str}
def cM (d : D) : Env → M D := fun _ => ret d
theorem x_int {i : Int} {j} : Dn X (.Constant (.int i) j pos) (cM (.int i)) := dn_int
theorem x_bl {i : Bool} {j} : Dn X (.Constant (.bool i) j pos) (cM (.bl i)) := dn_bl
theorem x_non {j} : Dn X (.Constant .none j pos) (cM .non) := dn_non
theorem x_str {i : Str} {j} : Dn X (.Constant (.str i) j pos) (cM (.str i)) := dn_str
theorem x_cst {d : D} (h : Cst X.K X.mg x d) (hg : Gl X x := by rfl) (hd : (x == ("__debug__" : Str)) = false := by decide) : Dn X (.Name x pos) (cM d) := dn_cst h hg hd
def negM (ma : Env → M D) : Env → M D := fun env => bnd (ma env) negD
theorem x_neg (ha : Dn X a ma) : Dn X (.UnaryOp .USub a pos) (negM ma) := dn_neg ha
def nilM : Env → M (List D) := fun _ => ret []
theorem x_nil : DnA X [] nilM := da_nil
def tupM (m : Env → M (List D)) : Env → M D := fun env => bnd (m env) fun ds => if ds.length ≤ sizeLine then ret (.tup ds) else stuck
theorem x_tup {k} (h : DnA X es m) : Dn X (.Tuple es k pos) (tupM m) := dn_tup h
def lsM (m : Env → M (List D)) : Env → M (List D) := fun env => bnd (m env) fun ds => if ds.length ≤ sizeLine then ret ds else stuck
theorem x_ls (h : DnA X es m) : DnL X (.List es pos) (lsM m) := dl_lst h
def lstM (m : Env → M (List D)) : Env → M D := fun env => bnd (m env) fun ds => ret (.lst ds)
theorem x_lst (h : DnL X e m) : Dn X e (lstM m) := h.dn
def shrM (m : Env → M (List D)) : Env → M D := fun env => bnd (m env) shareD
theorem x_shr (h : DnL X e m) : Dn X e (shrM m) := h.share
def noM : Env → M (Option Int) := fun _ => ret none
theorem x_no : DnO X none noM := do_none
def soM (me : Env → M D) : Env → M (Option Int) := fun env => bnd (me env) asI
theorem x_so (h : Dn X e me) : DnO X (some e) (soM me) := do_some h
def fldM (c f : Str) (ma : Env → M D) : Env → M D := fun env => bnd (ma env) (fldOf c f)
theorem x_fld {c f : Str} (hc : Att X c f) (ha : Dn X a ma) (hb : attributeBase a f X.env (eval a X.env) = eval a X.env := by rfl) : Dn X (.Attribute a f pos) (fldM c f ma) := dn_fld c hc ha hb
def itM (me : Env → M D) : Env → M (List D) := fun env => bnd (me env) itD
theorem x_it (h : Dn X e me) : DnI X tg e (itM me) := di_seq h
def r1M (m : Env → M (List D)) : Env → M (List D) := fun env => bnd (m env) rg1D
def r2M (m : Env → M (List D)) : Env → M (List D) := fun env => bnd (m env) rg2D
theorem x_r1 (ha : DnA X [e] m) (hm : X.mg "range" = none) (hg : Gl X "range" := by rfl) (hs : starEach [e] X.env = [(false, eval e X.env)] := by rfl) : DnI X tg (.Call (.Name "range" p) [e] [] pos) (r1M m) := di_range1 ha hm hg hs
theorem x_r2 (ha : DnA X [e, e2] m) (hm : X.mg "range" = none) (hg : Gl X "range" := by rfl) (hs : starEach [e, e2] X.env = [(false, eval e X.env), (false, eval e2 X.env)] := by rfl) (hs2 : starEach [e2] X.env = [(false, eval e2 X.env)] := by rfl) : DnI X tg (.Call (.Name "range" p) [e, e2] [] pos) (r2M m) := di_range2 ha hm hg hs hs2
theorem x_ir1 (ha : DnA X [e] m) (hm : X.mg "range" = none) (hg : Gl X "range" := by rfl) (hs : starEach [e] X.env = [(false, eval e X.env)] := by rfl) : DnIr X tg (.Call (.Name "range" p) [e] [] pos) (r1M m) := dir_range1 ha hm hg hs
theorem x_ir2 (ha : DnA X [e, e2] m) (hm : X.mg "range" = none) (hg : Gl X "range" := by rfl) (hs : starEach [e, e2] X.env = [(false, eval e X.env), (false, eval e2 X.env)] := by rfl) (hs2 : starEach [e2] X.env = [(false, eval e2 X.env)] := by rfl) : DnIr X tg (.Call (.Name "range" p) [e, e2] [] pos) (r2M m) := dir_range2 ha hm hg hs hs2
def zipM (m : Env → M (List D)) : Env → M (List D) := fun env => bnd (m env) zipD
theorem x_zip {elts : List Expr} {kk : Nat} {tpos : Pos} (ha : DnA X [e, e2] m) (hm : X.mg "zip" = none) (hg : Gl X "zip" := by rfl) (hs : starEach [e, e2] X.env = (false, eval e X.env) :: starEach [e2] X.env := by rfl) (hpl : (backTo pos (starEach [e2] X.env)).any (·.1) = false := by rfl) : DnI X (.Tuple elts kk tpos) (.Call (.Name "zip" p) [e, e2] [] pos) (zipM m) := di_zip ha hm hg hs hpl
def enM (m : Env → M (List D)) : Env → M (List D) := fun env => bnd (m env) enumD
theorem x_en {elts : List Expr} {kk : Nat} {tpos : Pos} (ha : DnA X [e] m) (hm : X.mg "enumerate" = none) (hg : Gl X "enumerate" := by rfl) (hs : starEach [e] X.env = [(false, eval e X.env)] := by rfl) : DnI X (.Tuple elts kk tpos) (.Call (.Name "enumerate" p) [e] [] pos) (enM m) := di_enum ha hm hg hs
def ra1M (me : Env → M D) : Env → M (Int × Int) := fun env => bnd (me env) rgA1
def ra2M (me mb : Env → M D) : Env → M (Int × Int) := fun env => bnd (me env) fun x => bnd (mb env) fun y => rgA2 x y
theorem x_ra1 (ha : Dn X e me) (hm : X.mg "range" = none) (hg : Gl X "range" := by rfl) (na : starEach [e] X.env = (false, eval e X.env) :: starEach [] X.env := by rfl) : DnR X (.Call (.Name "range" p) [e] [] pos) (ra1M me) := dr_1 ha hm hg na
theorem x_ra2 (ha : Dn X e me) (hb : Dn X e2 mb) (hm : X.mg "range" = none) (hg : Gl X "range" := by rfl) (na : starEach [e, e2] X.env = (false, eval e X.env) :: starEach [e2] X.env := by rfl)
    (nb : starEach [e2] X.env = (false, eval e2 X.env) :: starEach [] X.env := by rfl) (hp : (backTo pos (starEach [e2] X.env)).any (·.1) = false := by rfl) : DnR X (.Call (.Name "range" p) [e, e2] [] pos) (ra2M me mb) := dr_2 ha hb hm hg na nb hp
def lrM (mr : Env → M (Int × Int)) : Env → M D := fun env => bnd (mr env) lrD
def trM (mr : Env → M (Int × Int)) : Env → M D := fun env => bnd (mr env) trD
theorem x_lr {mr : Env → M (Int × Int)} (hc : X.calm = true) (h : DnR X e mr) (hm : X.mg "list" = none) (hg : Gl X "list" := by rfl) (na : starEach [e] X.env = (false, eval e X.env) :: starEach [] X.env := by rfl) : Dn X (.Call (.Name "list" p) [e] [] pos) (lrM mr) := dn_listRg hc h hm hg na
theorem x_tr {mr : Env → M (Int × Int)} (hc : X.calm = true) (h : DnR X e mr) (hm : X.mg "tuple" = none) (hg : Gl X "tuple" := by rfl) (na : starEach [e] X.env = (false, eval e X.env) :: starEach [] X.env := by rfl) : Dn X (.Call (.Name "tuple" p) [e] [] pos) (trM mr) := dn_tupRg hc h hm hg na
def yesM : Env → M Bool := fun _ => ret true
theorem x_ts0 : DnTs X [] yesM := dts_nil
def nopM : MS := fun env => ret (.nx env)
def offM : MS := fun _ => stuck
theorem x_ss0 : Dss X [] nopM := dss_nil
theorem x_pass : Ds X (.Pass pos) nopM := ds_pass
theorem x_off {st : Stmt} : Ds X st offM := ds_never
theorem x_offs {st : List Stmt} : Dss X st offM := dss_never
def brkM : MS := fun env => ret (.bk env)
def cntM : MS := fun env => ret (.ct env)
theorem x_brk : Ds X (.Break pos) brkM := ds_break
theorem x_cnt : Ds X (.Continue pos) cntM := ds_continue
def retM (me : Env → M D) : MS := fun env => bnd (me (bor env)) fun d => ret (.rt d)
theorem x_ret (he : Dn X e me) : Ds X (.Return (some e) pos) (retM me) := ds_ret he
def ret0M : MS := fun env => ret (.rt .non)
theorem x_ret0 : Ds X (.Return none pos) ret0M := ds_retN
def expM (me : Env → M D) : MS := fun env => bnd (me (bor env)) fun _ => ret (.nx env)
theorem x_exp (he : Dn X e me) (hs : swapsWith e none pos.line X.env = pure false := by rfl) : Ds X (.Expr e pos) (expM me) := ds_expr he hs
def prsM (mk mv : Env → M D) (m : Env → M (List (D × D))) : Env → M (List (D × D)) := fun env => bnd (mk env) fun x => bnd (mv env) fun y => bnd (m env) fun r => ret ((x, y) :: r)
def pr0M : Env → M (List (D × D)) := fun _ => ret []
theorem x_pr0 : DnPs X pos [] [] pr0M := dps_nil
theorem x_prs {k v : Expr} {ks : List (Option Expr)} {vs : List Expr} {mk mv : Env → M D} {m : Env → M (List (D × D))} (hk : Dn X k mk) (hv : Dn X v mv) (hr : DnPs X pos ks vs m) : DnPs X pos (some k :: ks) (v :: vs) (prsM mk mv m) := dps_cons hk hv hr
def dspM (m : Env → M (List (D × D))) : Env → M D := fun env => bnd (m env) dispD
theorem x_dsp {keys : List (Option Expr)} {values : List Expr} {m : Env → M (List (D × D))} (h : DnPs X pos keys values m) (hall : keys.all (·.isSome) = true := by rfl) (hl : keys.length = values.length := by rfl) (h0 : keys ≠ [] := by exact List.cons_ne_nil _ _) (h15 : keys.length ≤ 15 := by decide) : Dn X (.Dict keys values pos) (dspM m) := dn_disp h hall hl h0 h15
def isbM (T : String) (ma : Env → M D) : Env → M D := fun env => bnd (ma env) (isiB T)
theorem x_isb {T : String} {tn : Str} (ha : Dn X a ma) (hm : X.mg "isinstance" = none) (hmt : X.mg tn = none) (hv : bootBuiltins tn = some (.type T)) (hv2 : bootBuiltins "isinstance" = some (.builtin "isinstance") := by decide +kernel) (hg : Gl X "isinstance" := by rfl) (hgt : Gl X tn := by rfl)
    (hn : tn ≠ "__name__" := by decide) (hd : (tn == ("__debug__" : Str)) = false := by decide) (h1 : starEach [a, .Name tn p2] X.env = (false, eval a X.env) :: starEach [.Name tn p2] X.env := by rfl) (h2 : starEach [.Name tn p2] X.env = (false, eval (.Name tn p2) X.env) :: starEach [] X.env := by rfl) (hpl : (backTo pos (starEach [.Name tn p2] X.env)).any (·.1) = false := by rfl) :
    Dn X (.Call (.Name "isinstance" p) [a, .Name tn p2] [] pos) (isbM T ma) := dn_isiB ha hm hmt hv hv2 hg hgt hn hd h1 h2 hpl
def iscM (c : Str) (ma : Env → M D) : Env → M D := fun env => bnd (ma env) (isiC c)
theorem x_isc {c : Str} {C : Addr} (ha : Dn X a ma) (hm : X.mg "isinstance" = none) (hC : X.mg c = some (.ref C)) (hI : CInst X.K C) (hv2 : bootBuiltins "isinstance" = some (.builtin "isinstance") := by decide +kernel) (hg : Gl X "isinstance" := by rfl) (hgt : Gl X c := by rfl)
    (hd : (c == ("__debug__" : Str)) = false := by decide) (h1 : starEach [a, .Name c p2] X.env = (false, eval a X.env) :: starEach [.Name c p2] X.env := by rfl) (h2 : starEach [.Name c p2] X.env = (false, eval (.Name c p2) X.env) :: starEach [] X.env := by rfl) (hpl : (backTo pos (starEach [.Name c p2] X.env)).any (·.1) = false := by rfl) :
    Dn X (.Call (.Name "isinstance" p) [a, .Name c p2] [] pos) (iscM c ma) := dn_isiC ha hm hC hI hv2 hg hgt hd h1 h2 hpl
def sl0M : SEnv → M (List Slot) := fun _ => ret []
theorem x_sl0 : DnSls X [] sl0M := dsls_nil
def slsM (me : SEnv → M Slot) (m : SEnv → M (List Slot)) : SEnv → M (List Slot) := fun env => bnd (me env) fun x => bnd (m env) fun xs => ret (x :: xs)
theorem x_sls {me : SEnv → M Slot} {m : SEnv → M (List Slot)} (h1 : DnSl X e me) (h2 : DnSls X es m) (hs : starEach (e :: es) X.env = (false, eval e X.env) :: starEach es X.env := by rfl) : DnSls X (e :: es) (slsM me m) := dsls_cons h1 h2 hs
variable {f C : Addr} {fd : FuncData} {k j : Nat} {ps : List Str} {Ci : List D → M D}
noncomputable def mkM (x : Str) (n : Nat) (Ci : List D → M D) (m : Env → M (List D)) : Env → M D := fun env => bnd (m env) (makeD x n Ci)
theorem x_make {n : Nat} (F : MkD X.prog X.w X.K X.mg X.base x C f fd k ps Ci) (gd : X.A.guards = some []) (hr : Room j X.A) (hk : k + 1 ≤ j) (ha : DnA X (e :: es) m) (hn : ps.length = n := by rfl) (hg : Gl X x := by rfl) (hdb : (x == ("__debug__" : Str)) = false := by decide)
    (h1 : starEach (e :: es) X.env = (false, eval e X.env) :: starEach es X.env := by rfl) (h2 : (backTo pos (starEach es X.env)).any (·.1) = false := by rfl) : Dn X (.Call (.Name x p) (e :: es) [] pos) (mkM x n Ci m) := by
  subst hn; exact dn_make F gd hr hk ha hg hdb h1 h2
/-- what a call with defaults needs -/
structure DfD (K : PySem.W.Frag) (mg : Str → Option Value) (fd : FuncData) (ps : List Str) (dds : List D) : Prop where
  ex : ∃ (dvs : List V) (dus : List Value), Binds K fd ps dus ∧ Vals dvs dus ∧ ∀ W, IsVs K mg W dvs dds
def cdM (n : Nat) (dds : List D) (Ci : List D → M D) (m : Env → M (List D)) : Env → M D := fun env => bnd (m env) fun ds => if ds.length + dds.length = n then Ci (ds ++ dds) else stuck
theorem x_callD {n : Nat} {dds : List D} (F : FnGD X.prog X.w X.K X.mg X.base x f fd k ps Ci) (gd : X.A.guards = some []) (hr : Room j X.A) (hk : k ≤ j) (hd : DfD X.K X.mg fd ps dds) (ha : DnA X (e :: es) m) (hn : ps.length = n := by rfl) (hg : Gl X x := by rfl) (hdb : (x == ("__debug__" : Str)) = false := by decide)
    (h1 : starEach (e :: es) X.env = (false, eval e X.env) :: starEach es X.env := by rfl) (h2 : (backTo pos (starEach es X.env)).any (·.1) = false := by rfl) : Dn X (.Call (.Name x p) (e :: es) [] pos) (cdM n dds Ci m) := by
  subst hn
  obtain ⟨dvs, dus, b1, b2, b3⟩ := hd.ex
  exact dn_callGD F gd hr hk b1 b2 b3 ha hg hdb h1 h2
theorem x_call {n : Nat} (F : FnGD X.prog X.w X.K X.mg X.base x f fd k ps Ci) (gd : X.A.guards = some []) (hr : Room j X.A) (hk : k ≤ j) (ha : DnA X (e :: es) m) (hn : ps.length = n := by rfl) (hg : Gl X x := by rfl) (hdb : (x == ("__debug__" : Str)) = false := by decide)
    (h1 : starEach (e :: es) X.env = (false, eval e X.env) :: starEach es X.env := by rfl) (h2 : (backTo pos (starEach es X.env)).any (·.1) = false := by rfl) : Dn X (.Call (.Name x p) (e :: es) [] pos) (callF n Ci m) := by
  subst hn; exact dn_callG F gd hr hk ha hg hdb h1 h2
theorem x_callK {n nk : Nat} {kws : List Keyword} {ks : List Str} {π : List Nat} (F : FnGD X.prog X.w X.K X.mg X.base x f fd k ps Ci) (gd : X.A.guards = some []) (hr : Room j X.A) (hk : k ≤ j) (hb : KBn X.K fd ps 0 ks (fun _ ws => reord π ws) (fun _ zs => reord π zs)) (ha : DnK X kws m) (hn : ps.length = n := by rfl) (hnk : ks.length = nk := by rfl) (hg : Gl X x := by rfl)
    (hal : (backToKw pos (keywordEach kws X.env)).all (·.1.isSome) = true := by rfl) (hksn : (backToKw pos (keywordEach kws X.env)).filterMap (·.1) = ks := by rfl) (hdb : (x == ("__debug__" : Str)) = false := by decide)
    (hplain : ((backTo pos (starEach [] X.env)).any (·.1) || (backToKw pos (keywordEach kws X.env)).any (·.1.isNone)) = false := by rfl) :
    Dn X (.Call (.Name x p) [] kws pos) (callK n nk π Ci m) := by
  subst hn hnk; exact dn_callGK F gd hr hk hb ha hg hal hksn hdb hplain
/-! built-ins -/
theorem boot_sum : bootBuiltins "sum" = some (.builtin "sum") := by decide +kernel
theorem boot_all : bootBuiltins "all" = some (.builtin "all") := by decide +kernel
theorem boot_any : bootBuiltins "any" = some (.builtin "any") := by decide +kernel
theorem boot_sorted : bootBuiltins "sorted" = some (.builtin "sorted") := by decide +kernel
theorem boot_abs : bootBuiltins "abs" = some (.builtin "abs") := by decide +kernel
theorem boot_max : bootBuiltins "max" = some (.builtin "max") := by decide +kernel
theorem boot_min : bootBuiltins "min" = some (.builtin "min") := by decide +kernel
theorem boot_divmod : bootBuiltins "divmod" = some (.builtin "divmod") := by decide +kernel
theorem boot_repr : bootBuiltins "repr" = some (.builtin "repr") := by decide +kernel
theorem boot_len2 : bootBuiltins "len" = some (.builtin "len") := by decide +kernel
theorem boot_tuple2 : bootBuiltins "tuple" = some (.type "tuple") := by decide +kernel
theorem boot_list2 : bootBuiltins "list" = some (.type "list") := by decide +kernel
theorem boot_int2 : bootBuiltins "int" = some (.type "int") := by decide +kernel
theorem boot_bool2 : bootBuiltins "bool" = some (.type "bool") := by decide +kernel
theorem boot_str2 : bootBuiltins "str" = some (.type "str") := by decide +kernel
theorem x_len (hm : X.mg "len" = none) (ha : DnA X (e :: es) m) (hg : Gl X "len" := by rfl) (he : starEach (e :: es) X.env = (false, eval e X.env) :: starEach es X.env := by rfl) (hpl : (backTo pos (starEach es X.env)).any (·.1) = false := by rfl) : Dn X (.Call (.Name "len" p) (e :: es) [] pos) (appA lenD m) := dn_callB call_lenA rs_len hg hm boot_len2 ha (he := he) (hpl := hpl)
theorem x_sum (hc : X.calm = true) (hm : X.mg "sum" = none) (ha : DnA X (e :: es) m) (hg : Gl X "sum" := by rfl) (he : starEach (e :: es) X.env = (false, eval e X.env) :: starEach es X.env := by rfl) (hpl : (backTo pos (starEach es X.env)).any (·.1) = false := by rfl) : Dn X (.Call (.Name "sum" p) (e :: es) [] pos) (appA sumD m) := dn_callB (cr_sum hc) rs_sum hg hm boot_sum ha (he := he) (hpl := hpl)
theorem x_all (hc : X.calm = true) (hm : X.mg "all" = none) (ha : DnA X (e :: es) m) (hg : Gl X "all" := by rfl) (he : starEach (e :: es) X.env = (false, eval e X.env) :: starEach es X.env := by rfl) (hpl : (backTo pos (starEach es X.env)).any (·.1) = false := by rfl) : Dn X (.Call (.Name "all" p) (e :: es) [] pos) (appA allD m) := dn_callB (cr_all hc) rs_all hg hm boot_all ha (he := he) (hpl := hpl)
theorem x_any (hc : X.calm = true) (hm : X.mg "any" = none) (ha : DnA X (e :: es) m) (hg : Gl X "any" := by rfl) (he : starEach (e :: es) X.env = (false, eval e X.env) :: starEach es X.env := by rfl) (hpl : (backTo pos (starEach es X.env)).any (·.1) = false := by rfl) : Dn X (.Call (.Name "any" p) (e :: es) [] pos) (appA anyD m) := dn_callB (cr_any hc) rs_any hg hm boot_any ha (he := he) (hpl := hpl)
theorem x_sorted (hm : X.mg "sorted" = none) (ha : DnA X (e :: es) m) (hg : Gl X "sorted" := by rfl) (he : starEach (e :: es) X.env = (false, eval e X.env) :: starEach es X.env := by rfl) (hpl : (backTo pos (starEach es X.env)).any (·.1) = false := by rfl) : Dn X (.Call (.Name "sorted" p) (e :: es) [] pos) (appA sortedD m) := dn_callB cr_sortedI rs_sorted hg hm boot_sorted ha (he := he) (hpl := hpl)
theorem x_abs (hm : X.mg "abs" = none) (ha : DnA X (e :: es) m) (hg : Gl X "abs" := by rfl) (he : starEach (e :: es) X.env = (false, eval e X.env) :: starEach es X.env := by rfl) (hpl : (backTo pos (starEach es X.env)).any (·.1) = false := by rfl) : Dn X (.Call (.Name "abs" p) (e :: es) [] pos) (appA absD m) := dn_callB call_abs rs_abs hg hm boot_abs ha (he := he) (hpl := hpl)
theorem x_max (hc : X.calm = true) (hm : X.mg "max" = none) (ha : DnA X (e :: es) m) (hg : Gl X "max" := by rfl) (he : starEach (e :: es) X.env = (false, eval e X.env) :: starEach es X.env := by rfl) (hpl : (backTo pos (starEach es X.env)).any (·.1) = false := by rfl) : Dn X (.Call (.Name "max" p) (e :: es) [] pos) (appA max2D m) := dn_callB (call_max2 hc) rs_max2 hg hm boot_max ha (he := he) (hpl := hpl)
theorem x_min (hc : X.calm = true) (hm : X.mg "min" = none) (ha : DnA X (e :: es) m) (hg : Gl X "min" := by rfl) (he : starEach (e :: es) X.env = (false, eval e X.env) :: starEach es X.env := by rfl) (hpl : (backTo pos (starEach es X.env)).any (·.1) = false := by rfl) : Dn X (.Call (.Name "min" p) (e :: es) [] pos) (appA min2D m) := dn_callB (call_min2 hc) rs_min2 hg hm boot_min ha (he := he) (hpl := hpl)
theorem x_divmod (hm : X.mg "divmod" = none) (ha : DnA X (e :: es) m) (hg : Gl X "divmod" := by rfl) (he : starEach (e :: es) X.env = (false, eval e X.env) :: starEach es X.env := by rfl) (hpl : (backTo pos (starEach es X.env)).any (·.1) = false := by rfl) : Dn X (.Call (.Name "divmod" p) (e :: es) [] pos) (appA divmodD m) := dn_callB call_divmod rs_divmod hg hm boot_divmod ha (he := he) (hpl := hpl)
theorem x_repr (gd : X.A.guards = some []) (hr : Room j X.A) (hm : X.mg "repr" = none) (ha : DnA X (e :: es) m) (hg : Gl X "repr" := by rfl) (he : starEach (e :: es) X.env = (false, eval e X.env) :: starEach es X.env := by rfl) (hpl : (backTo pos (starEach es X.env)).any (·.1) = false := by rfl) : Dn X (.Call (.Name "repr" p) (e :: es) [] pos) (appA reprD m) := dn_callB (cr_repr gd (un66 hr)) rs_repr hg hm boot_repr ha (he := he) (hpl := hpl)
theorem x_tuple (hm : X.mg "tuple" = none) (ha : DnA X (e :: es) m) (hg : Gl X "tuple" := by rfl) (he : starEach (e :: es) X.env = (false, eval e X.env) :: starEach es X.env := by rfl) (hpl : (backTo pos (starEach es X.env)).any (·.1) = false := by rfl) : Dn X (.Call (.Name "tuple" p) (e :: es) [] pos) (appA tupleD m) := dn_callTy cx_tuple rs_tuple hg hm boot_tuple2 ha (he := he) (hpl := hpl)
theorem x_list (hm : X.mg "list" = none) (ha : DnA X (e :: es) m) (hg : Gl X "list" := by rfl) (he : starEach (e :: es) X.env = (false, eval e X.env) :: starEach es X.env := by rfl) (hpl : (backTo pos (starEach es X.env)).any (·.1) = false := by rfl) : Dn X (.Call (.Name "list" p) (e :: es) [] pos) (appA listD m) := dn_callTy call_list_of rs_list hg hm boot_list2 ha (he := he) (hpl := hpl)
theorem x_int1 (hm : X.mg "int" = none) (ha : DnA X (e :: es) m) (hg : Gl X "int" := by rfl) (he : starEach (e :: es) X.env = (false, eval e X.env) :: starEach es X.env := by rfl) (hpl : (backTo pos (starEach es X.env)).any (·.1) = false := by rfl) : Dn X (.Call (.Name "int" p) (e :: es) [] pos) (appA intD m) := dn_callTy call_int1 rs_int hg hm boot_int2 ha (he := he) (hpl := hpl)
theorem x_gcd (hm : X.mg "gcd" = some (.builtin "math.gcd")) (ha : DnA X (e :: es) m) (hg : Gl X "gcd" := by rfl) (he : starEach (e :: es) X.env = (false, eval e X.env) :: starEach es X.env := by rfl) (hpl : (backTo pos (starEach es X.env)).any (·.1) = false := by rfl) : Dn X (.Call (.Name "gcd" p) (e :: es) [] pos) (appA gcdD m) := dn_callF cr_gcd rs_gcd hg hm ha (he := he) (hpl := hpl)
/-! comparisons -/
theorem o_lt : OpR X (compareOp .Lt) (rI0 fun i j => .bl (decide (i < j))) := op_lt
theorem o_eq (hr : Room j X.A) : OpR X (compareOp .Eq) (rEqD X.K) := op_eqD (un64 hr)
theorem o_ne (hr : Room j X.A) : OpR X (compareOp .NotEq) (rNeD X.K) := op_neD (un64 hr)
theorem o_in (hr : Room j X.A) : OpR X (compareOp .In) (rInAll X.K false (rInD X.K)) := OpR.or op_in_seq (op_inD (un65 hr))
theorem o_nin (hr : Room j X.A) : OpR X (compareOp .NotIn) (rInAll X.K true (rNotInD X.K)) := OpR.or op_notIn_seq (op_notInD (un65 hr))
end
/-- fnG_ok for a def with defaults -/
theorem fnG_okD {P : Program} {w : World} {K : PySem.W.Frag} {mg : Str → Option Value} {base : Heap} {x qual : Str} {st : Stmt} {f : Addr} {fd : FuncData} {N ps : List Str} {k n : Nat} {m : MS} {dvs : List V} {kws : List (Str × V)} (F : L2.FunD K x qual (defArgs st) (defBody st) (defScope st) dvs kws f fd) (Sc : FnScope N ps (defScope st)) (hN : N.length = n)
    (hb : ∀ (cdv : Value) (A : Around) (fr : List PySem.Env) (s : Shared) (H : Hp) (E : XK), fd.code = cdv → A.guards = some [] → Room k (A.deeper (envOfC qual (defScope st) s.heap.objs.size f cdv)) → Dss (cxOf CX0 P w K mg base N qual (defScope st) f cdv A fr s H E).nox (defBody st) m) :
    FnG P w K mg base (k + 1) f fd ps (spF K mg ps.length (bodyM n m)) := by
  have hlen : ∀ vs H Q E, spF K mg ps.length (bodyM n m) vs H Q E → vs.length = ps.length := fun vs H Q E ⟨W, S, ds, i, _, hl, _⟩ => i.length.trans hl
  obtain ⟨oc, od, dV, kV, doc, pm, an, cdv, ct, osl, efd, lk, hcd, _, _⟩ := F.ex
  subst efd
  exact ⟨hlen, fun A fr s H as us vs Q E gd hr e0 bt rv sp => LamX.run_ofS lk hcd Sc hr e0 bt rv (hlen _ _ _ _ sp) fun hr2 => ⟨_, (hb cdv A fr s H E rfl gd hr2).pss.nox, body_run hN sp⟩⟩
end Pm

set_option Elab.async false
set_option linter.all false
set_option maxRecDepth 100000
set_option maxHeartbeats 600000
/-! Pm20: what a reading does, told by what holds behind it (no program in sight). -/
namespace Pm
open PySem L2

def Run {α : Type} (m : M α) (S : List O) (P : α → List O → Prop) : Prop := ∃ a S', m S = some (a, S') ∧ P a S'
theorem Run.mono {α : Type} {m : M α} {S : List O} {P Q : α → List O → Prop} (h : Run m S P) (k : ∀ a S', P a S' → Q a S') : Run m S Q := by
  obtain ⟨a, S', e, p⟩ := h; exact ⟨a, S', e, k a S' p⟩
theorem run_eq {α : Type} {m : M α} {S S' : List O} {a : α} {P : α → List O → Prop} (h : m S = some (a, S')) : Run m S P ↔ P a S' := by
  constructor
  · rintro ⟨b, S2, e, p⟩; rw [h] at e; cases e; exact p
  · intro p; exact ⟨a, S', h, p⟩
section
variable {α β : Type} {S : List O}
@[simp] theorem run_ret {a : α} {P : α → List O → Prop} : Run (ret a) S P ↔ P a S := run_eq rfl
@[simp] theorem run_stuck {P : α → List O → Prop} : Run (stuck : M α) S P ↔ False := ⟨fun ⟨_, _, e, _⟩ => (by cases e), False.elim⟩
@[simp] theorem run_bnd {m : M α} {f : α → M β} {P : β → List O → Prop} : Run (bnd m f) S P ↔ Run m S fun a S1 => Run (f a) S1 P := by
  constructor
  · rintro ⟨b, S', e, p⟩
    obtain ⟨a, S1, e1, e2⟩ := bnd_some e
    exact ⟨a, S1, e1, b, S', e2, p⟩
  · rintro ⟨a, S1, e1, b, S', e2, p⟩
    exact ⟨b, S', (bnd_of e1).trans e2, p⟩
theorem run_ite {c : Prop} [Decidable c] {a b : M α} {P : α → List O → Prop} : Run (if c then a else b) S P ↔ (if c then Run a S P else Run b S P) := by split <;> rfl
@[simp] theorem run_lift {x : Option α} {P : α → List O → Prop} : Run (lift x) S P ↔ ∃ a, x = some a ∧ P a S := by
  constructor
  · rintro ⟨a, S', e, p⟩
    cases x with
    | none => cases e
    | some b => cases e; exact ⟨_, rfl, p⟩
  · rintro ⟨a, rfl, p⟩; exact ⟨a, S, rfl, p⟩
variable {env : Env} {P : D → List O → Prop} {PL : List D → List O → Prop} {PB : Bool → List O → Prop} {ma mb mc me : Env → M D} {m : Env → M (List D)}
@[simp] theorem run_getv {i : Nat} : Run (getv i env) S P ↔ ∃ d, env[i]?.join = some d ∧ P d S := run_lift
@[simp] theorem run_cM {d : D} : Run (cM d env) S P ↔ P d S := run_ret
@[simp] theorem run_bin {f : D → D → M D} : Run (bin f ma mb env) S P ↔ Run (ma env) S fun x S1 => Run (mb env) S1 fun y S2 => Run (f x y) S2 P := by unfold bin; simp only [run_bnd]
@[simp] theorem run_negM : Run (negM ma env) S P ↔ Run (ma env) S fun x S1 => Run (negD x) S1 P := run_bnd
@[simp] theorem run_nilM : Run (nilM env) S PL ↔ PL [] S := run_ret
@[simp] theorem run_consA : Run (consA me m env) S PL ↔ Run (me env) S fun x S1 => Run (m env) S1 fun xs S2 => PL (x :: xs) S2 := by unfold consA; simp only [run_bnd, run_ret]
@[simp] theorem run_appA {f : List D → M D} : Run (appA f m env) S P ↔ Run (m env) S fun ds S1 => Run (f ds) S1 P := run_bnd
@[simp] theorem run_tupM : Run (tupM m env) S P ↔ Run (m env) S fun ds S1 => ds.length ≤ sizeLine ∧ P (.tup ds) S1 := by
  unfold tupM; simp only [run_bnd, run_ite, run_ret, run_stuck]; simp
@[simp] theorem run_lsM : Run (lsM m env) S PL ↔ Run (m env) S fun ds S1 => ds.length ≤ sizeLine ∧ PL ds S1 := by
  unfold lsM; simp only [run_bnd, run_ite, run_ret, run_stuck]; simp
@[simp] theorem run_lstM : Run (lstM m env) S P ↔ Run (m env) S fun ds S1 => P (.lst ds) S1 := by unfold lstM; simp only [run_bnd, run_ret]
@[simp] theorem run_shrM : Run (shrM m env) S P ↔ Run (m env) S fun ds S1 => D.pures ds = true ∧ P (.ref S1.length) (S1 ++ [.lst ds]) := by
  unfold shrM; simp only [run_bnd]
  constructor
  · rintro ⟨ds, S1, e, d, S2, h, p⟩
    unfold shareD at h
    split at h
    · cases h; exact ⟨_, _, e, by assumption, p⟩
    · cases h
  · rintro ⟨ds, S1, e, hp, p⟩
    exact ⟨ds, S1, e, _, _, if_pos hp, p⟩
@[simp] theorem run_noM {Q : Option Int → List O → Prop} : Run (noM env) S Q ↔ Q none S := run_ret
@[simp] theorem run_soM {Q : Option Int → List O → Prop} : Run (soM me env) S Q ↔ Run (me env) S fun d S1 => Run (asI d) S1 Q := run_bnd
@[simp] theorem run_fldM {c f : Str} : Run (fldM c f ma env) S P ↔ Run (ma env) S fun d S1 => Run (fldOf c f d) S1 P := run_bnd
@[simp] theorem run_itM : Run (itM me env) S PL ↔ Run (me env) S fun d S1 => Run (itD d) S1 PL := run_bnd
@[simp] theorem run_r1M : Run (r1M m env) S PL ↔ Run (m env) S fun d S1 => Run (rg1D d) S1 PL := run_bnd
@[simp] theorem run_r2M : Run (r2M m env) S PL ↔ Run (m env) S fun d S1 => Run (rg2D d) S1 PL := run_bnd
@[simp] theorem run_zipM : Run (zipM m env) S PL ↔ Run (m env) S fun d S1 => Run (zipD d) S1 PL := run_bnd
@[simp] theorem run_enM : Run (enM m env) S PL ↔ Run (m env) S fun d S1 => Run (enumD d) S1 PL := run_bnd
@[simp] theorem run_ra1M {Q : Int × Int → List O → Prop} : Run (ra1M me env) S Q ↔ Run (me env) S fun d S1 => Run (rgA1 d) S1 Q := run_bnd
@[simp] theorem run_lrM {mr : Env → M (Int × Int)} : Run (lrM mr env) S P ↔ Run (mr env) S fun d S1 => Run (lrD d) S1 P := run_bnd
@[simp] theorem run_trM {mr : Env → M (Int × Int)} : Run (trM mr env) S P ↔ Run (mr env) S fun d S1 => Run (trD d) S1 P := run_bnd
@[simp] theorem run_yesM : Run (yesM env) S PB ↔ PB true S := run_ret
@[simp] theorem run_isbM {T : String} : Run (isbM T ma env) S P ↔ Run (ma env) S fun d S1 => Run (isiB T d) S1 P := run_bnd
@[simp] theorem run_iscM {c : Str} : Run (iscM c ma env) S P ↔ Run (ma env) S fun d S1 => Run (isiC c d) S1 P := run_bnd
@[simp] theorem run_mkM {c : Str} {n : Nat} {Ci : List D → M D} : Run (mkM c n Ci m env) S P ↔ Run (m env) S fun d S1 => Run (makeD c n Ci d) S1 P := run_bnd
@[simp] theorem run_callF {n : Nat} {C : List D → M D} : Run (callF n C m env) S P ↔ Run (m env) S fun ds S1 => ds.length = n ∧ Run (C ds) S1 P := by
  unfold callF; simp only [run_bnd, run_ite, run_stuck, Nat.add_zero]; simp
@[simp] theorem run_callK {n q : Nat} {π : List Nat} {C : List D → M D} : Run (callK n q π C m env) S P ↔ Run (m env) S fun ds S1 => (ds.length = q ∧ (reord π ds).length = n) ∧ Run (C (reord π ds)) S1 P := by
  unfold callK; simp only [run_bnd, run_ite, run_stuck]; simp
@[simp] theorem run_cdM {n : Nat} {dds : List D} {C : List D → M D} : Run (cdM n dds C m env) S P ↔ Run (m env) S fun ds S1 => ds.length + dds.length = n ∧ Run (C (ds ++ dds)) S1 P := by
  unfold cdM; simp only [run_bnd, run_ite, run_stuck]; simp
@[simp] theorem run_slM {ml mh : Env → M (Option Int)} : Run (slM ma ml mh env) S P ↔ Run (ma env) S fun x S1 => Run (ml env) S1 fun lo S2 => Run (mh env) S2 fun hi S3 => Run (cutD x lo hi) S3 P := by unfold slM; simp only [run_bnd]
@[simp] theorem run_prsM {mk mv : Env → M D} {mr : Env → M (List (D × D))} {Q : List (D × D) → List O → Prop} : Run (prsM mk mv mr env) S Q ↔ Run (mk env) S fun x S1 => Run (mv env) S1 fun y S2 => Run (mr env) S2 fun r S3 => Q ((x, y) :: r) S3 := by unfold prsM; simp only [run_bnd, run_ret]
@[simp] theorem run_pr0M {Q : List (D × D) → List O → Prop} : Run (pr0M env) S Q ↔ Q [] S := run_ret
@[simp] theorem run_dspM {mr : Env → M (List (D × D))} : Run (dspM mr env) S P ↔ Run (mr env) S fun r S1 => Run (dispD r) S1 P := run_bnd
/-! tests -/
@[simp] theorem run_asB {d : D} : Run (asB d) S PB ↔ ∃ b, d = .bl b ∧ PB b S := by
  cases d <;> simp [asB]
@[simp] theorem run_tst : Run (tst ma env) S PB ↔ Run (ma env) S fun d S1 => Run (asB d) S1 PB := run_bnd
variable {ta tb : Env → M Bool}
@[simp] theorem run_notT : Run (notT ta env) S PB ↔ Run (ta env) S fun k S1 => PB (!k) S1 := by unfold notT; simp only [run_bnd, run_ret]
@[simp] theorem run_andT : Run (andT ta tb env) S PB ↔ Run (ta env) S fun k S1 => if k = true then Run (tb env) S1 PB else PB false S1 := by unfold andT; simp only [run_bnd, run_ite, run_ret]
@[simp] theorem run_orT : Run (orT ta tb env) S PB ↔ Run (ta env) S fun k S1 => if k = true then PB true S1 else Run (tb env) S1 PB := by unfold orT; simp only [run_bnd, run_ite, run_ret]
@[simp] theorem run_andV : Run (andV ma mb env) S P ↔ Run (ma env) S fun x S1 => Run (asB x) S1 fun k S2 => if k = true then Run (mb env) S2 P else P (.bl false) S2 := by unfold andV; simp only [run_bnd, run_ite, run_ret]
@[simp] theorem run_orV : Run (orV ma mb env) S P ↔ Run (ma env) S fun x S1 => Run (asB x) S1 fun k S2 => if k = true then P (.bl true) S2 else Run (mb env) S2 P := by unfold orV; simp only [run_bnd, run_ite, run_ret]
@[simp] theorem run_notV : Run (notV ma env) S P ↔ Run (ma env) S fun x S1 => Run (asB x) S1 fun k S2 => P (.bl (!k)) S2 := by unfold notV; simp only [run_bnd, run_ret]
@[simp] theorem run_ifV : Run (ifV ta ma mb env) S P ↔ Run (ta env) S fun k S1 => if k = true then Run (ma env) S1 P else Run (mb env) S1 P := by unfold ifV; simp only [run_bnd, run_ite]
@[simp] theorem run_chn {f f' : D → D → M D} : Run (chn f f' ma mb mc env) S P ↔ Run (ma env) S fun x S1 => Run (mb env) S1 fun y S2 => Run (f x y) S2 fun z S3 => Run (asB z) S3 fun k S4 => if k = true then Run (mc env) S4 fun w S5 => Run (f' y w) S5 P else P (.bl false) S4 := by
  unfold chn; simp only [run_bnd, run_ite, run_ret]
/-! ints -/
@[simp] theorem run_int2 {C : Int → Int → Prop} [∀ i j, Decidable (C i j)] {g : Int → Int → D} {i j : Int} : Run (int2 C g (.int i) (.int j)) S P ↔ C i j ∧ P (g i j) S := by
  unfold int2; simp only [run_ite, run_ret, run_stuck]; simp
@[simp] theorem run_addI {i j : Int} : Run (addD (.int i) (.int j)) S P ↔ P (.int (i + j)) S := run_ret
@[simp] theorem run_subI {i j : Int} : Run (subD (.int i) (.int j)) S P ↔ P (.int (i - j)) S := by unfold subD; simp
@[simp] theorem run_mulI {i j : Int} : Run (mulD (.int i) (.int j)) S P ↔ (CMul i j ∨ CMulW i j) ∧ P (.int (i * j)) S := by unfold mulD; simp only [run_ite, run_ret, run_stuck]; simp
@[simp] theorem run_divI {i j : Int} : Run (divD (.int i) (.int j)) S P ↔ CDivW i j ∧ P (.int (i / j)) S := by unfold divD; simp
@[simp] theorem run_modI {i j : Int} : Run (modD (.int i) (.int j)) S P ↔ 0 < j ∧ P (.int (i % j)) S := by unfold modD; simp
@[simp] theorem run_powI {i j : Int} : Run (powD (.int i) (.int j)) S P ↔ CPow i j ∧ P (.int (i ^ j.toNat)) S := by unfold powD; simp
@[simp] theorem run_negI {i : Int} : Run (negD (.int i)) S P ↔ P (.int (-i)) S := run_ret
@[simp] theorem run_ltI {i j : Int} : Run (ltD (.int i) (.int j)) S P ↔ P (.bl (decide (i < j))) S := by unfold ltD; simp
@[simp] theorem run_leI {i j : Int} : Run (leD (.int i) (.int j)) S P ↔ P (.bl (decide (i ≤ j))) S := by unfold leD; simp
@[simp] theorem run_gtI {i j : Int} : Run (gtD (.int i) (.int j)) S P ↔ P (.bl (decide (j < i))) S := by unfold gtD; simp
@[simp] theorem run_geI {i j : Int} : Run (geD (.int i) (.int j)) S P ↔ P (.bl (decide (j ≤ i))) S := by unfold geD; simp
@[simp] theorem run_isN {d : D} : Run (isND d .non) S P ↔ P (.bl (match d with | .non => true | _ => false)) S := run_ret
@[simp] theorem run_notN {d : D} : Run (notND d .non) S P ↔ P (.bl (match d with | .non => false | _ => true)) S := run_ret
@[simp] theorem run_eqI {i j : Int} : Run (eqD (.int i) (.int j)) S P ↔ P (.bl (decide (i = j))) S := by
  refine run_eq ?_
  show eqP id _ _ _ = _
  have hs : ∀ k : Int, SeqAt.shaped (.int k) = true := fun k => rfl
  simp only [eqP, D.toPy, hs, and_self, if_true, id, ret]
  congr 2
/-! calls and lists -/
@[simp] theorem run_lenT {ds : List D} : Run (lenD [.tup ds]) S P ↔ P (.int ds.length) S := run_ret
@[simp] theorem run_lenL {ds : List D} : Run (lenD [.lst ds]) S P ↔ P (.int ds.length) S := run_ret
@[simp] theorem run_lenS {ns : List Int} : Run (lenD [.scr ns]) S P ↔ P (.int ns.length) S := run_ret
@[simp] theorem run_tupL {ds : List D} : Run (tupleD [.lst ds]) S P ↔ P (.tup ds) S := run_ret
@[simp] theorem run_tupT {ds : List D} : Run (tupleD [.tup ds]) S P ↔ P (.tup ds) S := run_ret
@[simp] theorem run_gcdI {i j : Int} : Run (gcdD [.int i, .int j]) S P ↔ P (.int ((Nat.gcd i.natAbs j.natAbs : Nat) : Int)) S := run_ret
@[simp] theorem run_absI {i : Int} : Run (absD [.int i]) S P ↔ P (.int (if i < 0 then -i else i)) S := run_ret
@[simp] theorem run_maxI {i j : Int} : Run (max2D [.int i, .int j]) S P ↔ P (.int (if j > i then j else i)) S := run_ret
@[simp] theorem run_minI {i j : Int} : Run (min2D [.int i, .int j]) S P ↔ P (.int (if j < i then j else i)) S := run_ret
@[simp] theorem run_itL {ds : List D} : Run (itD (.lst ds)) S PL ↔ PL ds S := run_ret
@[simp] theorem run_itT {ds : List D} : Run (itD (.tup ds)) S PL ↔ PL ds S := run_ret
@[simp] theorem run_itS {ns : List Int} : Run (itD (.scr ns)) S PL ↔ PL (ns.map .int) S := run_ret
@[simp] theorem run_ixT {ds : List D} {i : Int} : Run (ixD (.tup ds) (.int i)) S P ↔ ∃ d, atI ds i = some d ∧ P d S := run_lift
@[simp] theorem run_ixL {ds : List D} {i : Int} : Run (ixD (.lst ds) (.int i)) S P ↔ ∃ d, atI ds i = some d ∧ P d S := run_lift
@[simp] theorem run_rg1 {n : Int} : Run (rg1D [.int n]) S PL ↔ (-(2 ^ 62) ≤ n ∧ n < 2 ^ 62) ∧ PL (rgD 0 n.toNat) S := by
  unfold rg1D; simp only [run_ite, run_ret, run_stuck]; simp
@[simp] theorem run_asI {i : Int} {Q : Option Int → List O → Prop} : Run (asI (.int i)) S Q ↔ Q (some i) S := run_ret
@[simp] theorem run_all {bs : List Bool} : Run (allD [.lst (bs.map .bl)]) S P ↔ P (.bl (bs.all id)) S := by
  refine run_eq ?_
  have h : ∀ bs : List Bool, D.bls (bs.map .bl) = some bs := fun bs => by
    induction bs with
    | nil => rfl
    | cons b r ih => simp [D.bls, ih]
  simp [allD, h, ret]
/-! ### statements -/
variable {se : SEnv} {PF : Flo → List O → Prop} {a b : MS}
@[simp] theorem run_seqM : Run (seqM a b se) S PF ↔ Run (a se) S fun r S1 => match r with | .nx e => Run (b e) S1 PF | r => PF r S1 := by
  unfold seqM
  simp only [run_bnd]
  refine ⟨fun h => h.mono fun r S1 q => ?_, fun h => h.mono fun r S1 q => ?_⟩ <;> cases r <;> simpa using q
@[simp] theorem run_ifM : Run (ifM ta a b se) S PF ↔ Run (ta (bor se)) S fun k S1 => if k = true then Run (a se) S1 PF else Run (b se) S1 PF := by unfold ifM; simp only [run_bnd, run_ite]
@[simp] theorem run_retM : Run (retM me se) S PF ↔ Run (me (bor se)) S fun d S1 => PF (.rt d) S1 := by unfold retM; simp only [run_bnd, run_ret]
@[simp] theorem run_ret0M : Run (ret0M se) S PF ↔ PF (.rt .non) S := run_ret
@[simp] theorem run_nopM : Run (nopM se) S PF ↔ PF (.nx se) S := run_ret
@[simp] theorem run_offM : Run (offM se) S PF ↔ False := run_stuck
@[simp] theorem run_expM : Run (expM me se) S PF ↔ Run (me (bor se)) S fun _ S1 => PF (.nx se) S1 := by unfold expM; simp only [run_bnd, run_ret]
@[simp] theorem run_setM {i : Nat} {m : SEnv → M Slot} : Run (setM i m se) S PF ↔ Run (m se) S fun sl S1 => PF (.nx (se.set i (some sl))) S1 := by unfold setM; simp only [run_bnd, run_ret]
@[simp] theorem run_valM {Q : Slot → List O → Prop} : Run (valM me se) S Q ↔ Run (evS me se) S fun d S1 => Q (.val d) S1 := by unfold valM; simp only [run_bnd, run_ret]
@[simp] theorem run_ownM {Q : Slot → List O → Prop} : Run (ownM m se) S Q ↔ Run (evL m se) S fun d S1 => Q (.own d) S1 := by unfold ownM; simp only [run_bnd, run_ret]
@[simp] theorem run_sl0M {Q : List Slot → List O → Prop} : Run (sl0M se) S Q ↔ Q [] S := run_ret
@[simp] theorem run_slsM {m1 : SEnv → M Slot} {m2 : SEnv → M (List Slot)} {Q : List Slot → List O → Prop} : Run (slsM m1 m2 se) S Q ↔ Run (m1 se) S fun x S1 => Run (m2 se) S1 fun xs S2 => Q (x :: xs) S2 := by unfold slsM; simp only [run_bnd, run_ret]
@[simp] theorem run_parM {is : List Nat} {m : SEnv → M (List Slot)} : Run (parM is m se) S PF ↔ Run (m se) S fun ss S1 => ∃ e, setL is ss se = some e ∧ PF (.nx e) S1 := by
  unfold parM
  simp only [run_bnd]
  refine ⟨fun h => h.mono fun ss S1 q => ?_, fun h => h.mono fun ss S1 q => ?_⟩
  · cases e : setL is ss se with
    | none => rw [e] at q; simp at q
    | some e2 => rw [e] at q; exact ⟨e2, rfl, by simpa using q⟩
  · obtain ⟨e2, h1, h2⟩ := q
    rw [h1]; simpa using h2
@[simp] theorem run_body {n : Nat} {m : MS} {ds : List D} : Run (bodyM n m ds) S P ↔ Run (m (env0 n ds)) S fun r S1 => match r with | .rt d => P d S1 | .nx _ => P .non S1 | _ => False := by
  unfold bodyM
  simp only [run_bnd]
  refine ⟨fun h => h.mono fun r S1 q => ?_, fun h => h.mono fun r S1 q => ?_⟩ <;> cases r <;> simpa using q
/-- no own one in the way -/
theorem run_evS (h : Run (ma (bor se)) S fun d S1 => d.pure = true ∧ P d S1) : Run (evS ma se) S P := by
  obtain ⟨d, S1, e, hp, p⟩ := h
  refine ⟨d, S1, ?_, p⟩
  unfold evS
  rw [bnd_of e, if_pos hp]; rfl
theorem run_evS_same (he : bor se = str se) : Run (evS ma se) S P ↔ Run (ma (bor se)) S P := by
  have key : evS ma se S = ma (bor se) S := by
    unfold evS
    rw [← he]
    cases e : ma (bor se) S with
    | none => unfold bnd; rw [e]; rfl
    | some r =>
      obtain ⟨d, S1⟩ := r
      rw [bnd_of e]
      cases hp : d.pure <;> simp [stuck, ret]
  unfold Run; rw [key]
theorem run_evL (h : Run (m (bor se)) S fun d S1 => D.pures d = true ∧ PL d S1) : Run (evL m se) S PL := by
  obtain ⟨d, S1, e, hp, p⟩ := h
  refine ⟨d, S1, ?_, p⟩
  unfold evL
  rw [bnd_of e, if_pos hp]; rfl
@[simp] theorem bor_nil : bor [] = [] := rfl
@[simp] theorem bor_val {d : D} {r : SEnv} : bor (some (.val d) :: r) = some d :: bor r := rfl
@[simp] theorem bor_own {d : List D} {r : SEnv} : bor (some (.own d) :: r) = some (.lst d) :: bor r := rfl
@[simp] theorem bor_none {r : SEnv} : bor (none :: r) = none :: bor r := rfl
@[simp] theorem str_nil : str [] = [] := rfl
@[simp] theorem str_val {d : D} {r : SEnv} : str (some (.val d) :: r) = some d :: str r := rfl
@[simp] theorem str_own {d : List D} {r : SEnv} : str (some (.own d) :: r) = none :: str r := rfl
@[simp] theorem str_none {r : SEnv} : str (none :: r) = none :: str r := rfl
/-! ### loops -/
/-- a for by an invariant: J k e S behind k items -/
theorem run_forL {set : SetS} {b : MS} {PF : Flo → List O → Prop} (J : List D → SEnv → List O → Prop) : ∀ (ds : List D) {se : SEnv} {S : List O}, J ds se S →
    (∀ d r e S, J (d :: r) e S → ∃ e2, set d e = some e2 ∧ Run (b e2) S fun fl S1 => match fl with | .nx e3 => J r e3 S1 | .ct e3 => J r e3 S1 | .bk e3 => PF (.nx e3) S1 | .rt d => PF (.rt d) S1) →
    (∀ e S, J [] e S → PF (.nx e) S) → Run (forL set b ds se) S PF
  | [], se, S, h, _, k => ⟨_, _, rfl, k _ _ h⟩
  | d :: r, se, S, h, st, k => by
    obtain ⟨e2, h1, h2⟩ := st d r se S h
    unfold forL
    rw [h1]
    simp only [run_bnd]
    refine h2.mono fun fl S1 q => ?_
    cases fl with
    | nx e => exact run_forL J r q st k
    | ct e => exact run_forL J r q st k
    | bk e => exact run_ret.mpr q
    | rt d => exact run_ret.mpr q
@[simp] theorem run_forM {mi : Env → M (List D)} {set : SetS} {b : MS} : Run (forM mi set b se) S PF ↔ Run (mi (str se)) S fun ds S1 => Run (forL set b ds se) S1 PF := run_bnd
@[simp] theorem run_forR {mi : Env → M (List D)} {set : SetS} {b : MS} : Run (forR mi set b se) S PF ↔ Run (mi (bor se)) S fun ds S1 => Run (forL set b ds se) S1 PF := run_bnd
@[simp] theorem run_lcM {vs : List Nat} {mi : Env → M (List D)} {set : SetF} {mt : Env → M Bool} : Run (lcM vs mi set mt me env) S PL ↔ Run (mi env) S fun ds S1 => ds.length < sizeLine ∧ Run (lcLoop set mt me (wipeE env vs) ds) S1 PL := by
  unfold lcM; simp only [run_bnd, run_ite, run_stuck]; simp
/-- a comprehension by an invariant: J rest made S -/
theorem run_lc {set : SetF} {mt : Env → M Bool} {w : Env} {PL : List D → List O → Prop} (J : List D → List D → List O → Prop) : ∀ (ds ac : List D) {S : List O}, J ds ac S →
    (∀ d r ac S, J (d :: r) ac S → ∃ e, set d w = some e ∧ Run (mt e) S fun k S1 => if k = true then Run (me e) S1 fun y S2 => J r (ac ++ [y]) S2 else J r ac S1) →
    (∀ ac S, J [] ac S → PL ac S) → Run (lcLoop set mt me w ds) S fun ys S1 => PL (ac ++ ys) S1
  | [], ac, S, h, _, k => ⟨[], S, rfl, by show PL (ac ++ []) S; rw [List.append_nil]; exact k _ _ h⟩
  | d :: r, ac, S, h, st, k => by
    obtain ⟨e, h1, h2⟩ := st d r ac S h
    unfold lcLoop
    rw [h1]
    simp only [run_bnd, run_ite, run_ret]
    refine h2.mono fun b S1 q => ?_
    cases b with
    | true =>
      simp only [if_true] at q ⊢
      refine q.mono fun y S2 q2 => ?_
      refine (run_lc J r (ac ++ [y]) q2 st k).mono fun ys S3 q3 => ?_
      rw [List.append_assoc] at q3; exact q3
    | false =>
      simp only [Bool.false_eq_true, if_false] at q ⊢
      exact run_lc J r ac q st k
/-- one whose test and item are plain functions -/
theorem run_lcF {set : SetF} {mt : Env → M Bool} {w : Env} {PL : List D → List O → Prop} {ds : List D} (f : D → Bool) (g : D → D) (h : ∀ d ∈ ds, ∃ e, set d w = some e ∧ mt e S = some (f d, S) ∧ (f d = true → me e S = some (g d, S))) (k : PL ((ds.filter f).map g) S) : Run (lcLoop set mt me w ds) S PL := by
  have key : ∀ l : List D, (∀ d ∈ l, ∃ e, set d w = some e ∧ mt e S = some (f d, S) ∧ (f d = true → me e S = some (g d, S))) → lcLoop set mt me w l S = some ((l.filter f).map g, S) := by
    intro l
    induction l with
    | nil => intro _; rfl
    | cons d r ih =>
      intro hl
      obtain ⟨e, h1, h2, h3⟩ := hl d List.mem_cons_self
      have ir := ih fun x hx => hl x (List.mem_cons_of_mem _ hx)
      unfold lcLoop
      rw [h1]
      simp only
      rw [bnd_of h2]
      cases hf : f d with
      | true => rw [if_pos rfl, bnd_of (h3 hf), bnd_of ir, List.filter_cons_of_pos hf]; rfl
      | false => rw [if_neg Bool.false_ne_true, ir, List.filter_cons_of_neg (by rw [hf]; exact Bool.false_ne_true)]
  exact ⟨_, _, key ds h, k⟩
end
end Pm

set_option Elab.async false
set_option linter.all false
set_option maxRecDepth 100000
set_option maxHeartbeats 600000
/-! Pm21: lot.index(case). -/
namespace Pm
open PySem PySem.Spec PyProof.Rows L2
def indexD : D → D → M D := fun x y => match x, y.toPy with
  | .tup ds, some p => match D.toPys ds with
    | some ps => if SeqAt.shaped p = true ∧ SeqAt.shaped (.tuple ps) = true then match ps.findIdx? (fun z => PyData.eqv z p) with
      | some j => ret (.int (j : Nat))
      | none => stuck
      else stuck
    | none => stuck
  | _, _ => stuck
theorem indexD_some {x y d : D} {S S' : List O} (h : indexD x y S = some (d, S')) : ∃ ds ps p j, x = .tup ds ∧ y.toPy = some p ∧ D.toPys ds = some ps ∧ SeqAt.shaped p = true ∧ SeqAt.shaped (.tuple ps) = true ∧ ps.findIdx? (fun z => PyData.eqv z p) = some j ∧ d = .int (j : Nat) ∧ S' = S := by
  cases x with
  | tup ds =>
    cases e1 : y.toPy with
    | none => simp [indexD, e1, stuck] at h
    | some p =>
      cases e2 : D.toPys ds with
      | none => simp [indexD, e1, e2, stuck] at h
      | some ps =>
        simp only [indexD, e1, e2] at h
        split at h
        · rename_i hc
          cases e3 : ps.findIdx? (fun z => PyData.eqv z p) with
          | none => rw [e3] at h; cases h
          | some j => rw [e3] at h; cases h; exact ⟨ds, ps, p, j, rfl, rfl, e2, hc.1, hc.2, e3, rfl, rfl⟩
        · cases h
  | _ => simp [indexD, stuck] at h
section
variable {X : Cx} {o e : Expr} {mo me : Env → M D} {apos cpos : Pos}
theorem x_index {k : Nat} (hr : Room k X.A) (ho : Dn X o mo) (he : Dn X e me)
    (hb : attributeBase o "index" X.env (eval o X.env) = eval o X.env := by rfl)
    (hf : ((backTo cpos (starEach [e] X.env)).all (fun x => !x.1) && (backToKw cpos (keywordEach [] X.env)).all (fun x => x.1.isSome) && decide ([e].length + ([] : List Keyword).length + (if ([] : List Keyword).isEmpty then 0 else 1) < 30)) = true := by rfl)
    (hl : (apos.endLine == cpos.line) = true := by rfl) (hs : starEach [e] X.env = (false, eval e X.env) :: starEach [] X.env := by rfl) (hp : (backTo cpos (starEach [] X.env)).any (·.1) = false := by rfl) :
    Dn X (.Call (.Attribute o "index" apos) [e] [] cpos) (bin indexD mo me) :=
  ⟨PE.mono (xe_tm PySem.F.slot_tuple_index PySem.F.type_tuple_index (mx_index (un65 hr)) ho.pe (pa_cons he.pe pa_nil hs) hb hf hl hs hp) fun σ H Q ⟨W, env, S, er, s, d, S', h, g⟩ => by
    obtain ⟨x, S1, h1, h⟩ := bnd_some h
    obtain ⟨y, S2, h2, h⟩ := bnd_some h
    obtain ⟨ds, ps, p, j, rfl, e1, e2, sp, sps, e3, rfl, rfl⟩ := indexD_some h
    refine ⟨W, env, S, er, s, _, S1, h1, fun W1 v1 H1 le1 f1 s1 i1 => ?_⟩
    cases i1 with
    | tup ha ia =>
      refine ⟨⟨_, _, rfl, TupX.mono X.K s1.zh ha⟩, W1, env, S1, er.mono le1, s1, y, _, h2, fun W2 v2 H2 le2 f2 s2 i2 => ?_⟩
      obtain ⟨hj, hz, hno⟩ := List.findIdx?_eq_some_iff_getElem.mp e3
      refine ⟨_, _, p, ps, j, ps[j], rfl, rfl, .tup (SqT.mono X.K s2.zh (SqT.mono X.K le2.z ha.t)) ((ia.mono le2).dp s2.zh e2), i2.dp s2.zh e1, sps, sp, List.getElem?_eq_getElem hj, hz, fun m z' hm hz' => ?_, ((g.step s le1 f1 s1).step s1 le2 f2 s2).here s2 (.int _)⟩
      have hm' : m < ps.length := Nat.lt_trans hm hj
      rw [List.getElem?_eq_getElem hm'] at hz'
      cases hz'
      simpa using hno m hm⟩
/-! ### a + b: a new list -/
theorem GoL.new {K : PySem.W.Frag} {mg : Str → Option Value} {W : Wd} {S : List O} {H : Hp} {ds : List D} {vs : List V} {Q : VK} {p : Addr} (g : GoL K mg W H S ds Q) (s : StRel K mg W S H) (i : IsVs K mg W vs ds) (hp : H p = none) : Q (.ref p) (upd H p (.lst vs)) := by
  refine g W p vs (upd H p (.lst vs)) (.refl W) ⟨fun a o e hr => ?_, fun l h1 h2 => absurd (Nat.lt_of_lt_of_le h2 h1) (Nat.lt_irrefl _), fun a o e => .inl e⟩ ⟨s.len, fun a o e => ?_, s.zr, s.inj, fun l o e => ?_⟩ upd_same i ?_ (fun l hl => s.ne hp hl) hp
  · rw [upd_ne (ne_of_none e hp)]; exact e
  · have h2 := s.zh a o e
    rw [upd_ne (ne_of_none h2 hp)]; exact h2
  · have hl : l < W.n := by rw [s.len]; exact (List.getElem?_eq_some_iff.mp e).1
    exact (s.ob l o e).mono (.refl W) (by rw [upd_ne (s.ne hp hl)])
  · cases q : W.Z p with
    | none => rfl
    | some u => rw [s.zh _ _ q] at hp; cases hp
theorem GoL.step {K : PySem.W.Frag} {mg : Str → Option Value} {W W1 : Wd} {S S1 S2 : List O} {H H1 : Hp} {ds : List D} {Q : VK} (s : StRel K mg W S H) (le1 : W.le W1) (f1 : Frame W W1 H H1) (s1 : StRel K mg W1 S1 H1) (g : GoL K mg W H S2 ds Q) : GoL K mg W1 H1 S2 ds Q :=
  fun W' p vs H' le f s' hp i hz hr hn => g W' p vs H' (le1.trans le) (f1.trans s s1 le1 f le) s' hp i hz hr (f1.tr le1 s1 hn)
def lcatD : D → D → M (List D)
  | .lst a, .lst b => if a.length + b.length ≤ sizeLine then ret (a ++ b) else stuck
  | _, _ => stuck
def lcatM (ma mb : Env → M D) : Env → M (List D) := fun env => bnd (ma env) fun x => bnd (mb env) fun y => lcatD x y
theorem x_lcat {a b : Expr} {ma mb : Env → M D} {pos : Pos} (ha : Dn X a ma) (hb : Dn X b mb) : DnL X (.BinOp a .Add b pos) (lcatM ma mb) :=
  ⟨PE.mono (pe_op op_cat ha.pe hb.pe) fun σ H Q ⟨W, env, S, er, s, d, S', h, g⟩ => by
    obtain ⟨x, S1, h1, h⟩ := bnd_some h
    obtain ⟨y, S2, h2, h⟩ := bnd_some h
    refine ⟨W, env, S, er, s, x, S1, h1, fun W1 v1 H1 le1 f1 s1 i1 => ?_⟩
    refine ⟨W1, env, S1, er.mono le1, s1, y, S2, h2, fun W2 v2 H2 le2 f2 s2 i2 => ?_⟩
    unfold lcatD at h
    split at h
    · split at h
      · rename_i hc
        cases h
        have i1 := i1.mono le2
        cases i1 with
        | lst za ia => cases i2 with
          | lst zb ib => exact ⟨_, _, _, _, rfl, rfl, s2.zh _ _ za, s2.zh _ _ zb, by rw [ia.length, ib.length]; exact hc, fun p hp => ((g.step s le1 f1 s1).step s1 le2 f2 s2).new s2 (ia.append ib) hp⟩
      · cases h
    · cases h⟩
/-- where an int stands in a row of ints -/
theorem toPys_ints : ∀ ns : List Int, D.toPys (ns.map D.int) = some (ns.map PyData.int)
  | [] => rfl
  | n :: r => by simp [D.toPys, D.toPy, toPys_ints r]
end
end Pm

set_option Elab.async false
set_option linter.all false
set_option maxRecDepth 100000
set_option maxHeartbeats 600000
/-! Pm22: texts (repr) of data without texts; equal ones. -/
namespace Pm
open PySem PySem.Spec PyProof.Rows L2
mutual
/-- ints of few figures, truths, None, tuples and lists of such -/
def small : PyData → Bool
  | .none => true
  | .bool _ => true
  | .int i => decide (i.natAbs < 10 ^ 12)
  | .list xs => smalls xs
  | .tuple xs => smalls xs
  | _ => false
def smalls : List PyData → Bool
  | [] => true
  | x :: xs => small x && smalls xs
end
theorem smalls_mem : ∀ {xs : List PyData}, smalls xs = true → ∀ x ∈ xs, small x = true
  | [], _, x, h => by cases h
  | y :: r, h, x, hx => by
    rw [smalls, Bool.and_eq_true] at h
    rcases List.mem_cons.mp hx with e | e
    · rw [e]; exact h.1
    · exact smalls_mem h.2 x e
theorem all_chars (t : Str) (h : ∀ k, 1114112 ≤ k → k ∉ t.cps.toList) : PyData.strOk t = true := by
  unfold PyData.strOk
  rw [← Array.all_toList, List.all_eq_true]
  intro c hc
  refine decide_eq_true (Nat.lt_of_not_le fun z => h c z hc)
mutual
theorem free_small {k : Nat} (hk : 1114112 ≤ k) : ∀ {d : PyData}, small d = true → k ∉ d.shown.cps.toList
  | .none, _ => by
    rw [PyData.shown_none]
    have e : (("None" : String) : Str).cps.toList = [78, 111, 110, 101] := by decide
    rw [e]; intro hm; simp only [List.mem_cons, List.not_mem_nil, or_false] at hm; omega
  | .bool b, _ => by
    rw [PyData.shown_bool]
    cases b
    · show k ∉ (Str.ofString "False").cps.toList
      have e : (Str.ofString "False").cps.toList = [70, 97, 108, 115, 101] := by decide
      rw [e]; intro hm; simp only [List.mem_cons, List.not_mem_nil, or_false] at hm; omega
    · show k ∉ (Str.ofString "True").cps.toList
      have e : (Str.ofString "True").cps.toList = [84, 114, 117, 101] := by decide
      rw [e]; intro hm; simp only [List.mem_cons, List.not_mem_nil, or_false] at hm; omega
  | .int i, _ => shown_int_free' ⟨by omega, by omega⟩ i
  | .list xs, h => by
    have hx := frees_small hk (xs := xs) (by simpa only [small] using h)
    rw [PyData.shown_list]
    intro hm
    rw [mem_cps_append, mem_cps_append, signs_lbrack, signs_rbrack, mem_join, signs_sep] at hm
    simp only [List.mem_cons, List.not_mem_nil, or_false] at hm
    rcases hm with (hm | ⟨t, ht, hc⟩ | ⟨_, hm⟩) | hm
    · omega
    · exact hx t ht hc
    · omega
    · omega
  | .tuple xs, h => by
    have hx := frees_small hk (xs := xs) (by simpa only [small] using h)
    rw [PyData.shown_tuple]
    intro hm
    rw [mem_cps_append, mem_cps_append, signs_lparen, mem_join, signs_sep] at hm
    simp only [List.mem_cons, List.not_mem_nil, or_false] at hm
    rcases hm with (hm | ⟨t, ht, hc⟩ | ⟨_, hm⟩) | hm
    · omega
    · exact hx t ht hc
    · omega
    · rw [signs_tuple_end] at hm
      split at hm <;> simp only [List.mem_cons, List.not_mem_nil, or_false] at hm <;> omega
  | .str _, h => by simp [small] at h
  | .dict _, h => by simp [small] at h
theorem frees_small {k : Nat} (hk : 1114112 ≤ k) : ∀ {xs : List PyData}, smalls xs = true → ∀ t ∈ PyData.shownAll xs, k ∉ t.cps.toList
  | [], _, t, ht => by rw [PyData.shownAll_nil] at ht; cases ht
  | x :: r, h, t, ht => by
    rw [smalls, Bool.and_eq_true] at h
    rw [PyData.shownAll_cons, List.mem_cons] at ht
    rcases ht with e | ht
    · rw [e]; exact free_small hk h.1
    · exact frees_small hk h.2 t ht
end
mutual
theorem lay_small : ∀ {d : PyData}, small d = true → d.canLay0 = true ∧ d.showable = true ∧ d.intsShort 13 = true
  | .none, _ => ⟨rfl, rfl, rfl⟩
  | .bool b, _ => ⟨rfl, rfl, rfl⟩
  | .int i, h => by
    have h : i.natAbs < 10 ^ 12 := by simpa only [small, decide_eq_true_eq] using h
    refine ⟨rfl, ?_, ?_⟩
    · unfold PyData.showable
      refine decide_eq_true ?_
      by_cases hz : i.natAbs = 0
      · rw [hz]; decide
      · exact Nat.lt_trans ((Nat.log2_lt hz).mpr (Nat.lt_trans h (by decide : (10 : Nat) ^ 12 < 2 ^ 40))) (by decide)
    · unfold PyData.intsShort
      refine decide_eq_true ?_
      rw [PyData.shown_int]
      have e : (Str.ofString (toString i)).length = (toString i).length := by
        show (Str.ofString (toString i)).cps.size = _
        rw [← Array.length_toList, signs_ofString, List.length_map, String.length_toList]
      exact e ▸ int_text_length_le10 (k := 12) (by decide) h
  | .list xs, h => lays_small (xs := xs) (by simpa only [small] using h)
  | .tuple xs, h => lays_small (xs := xs) (by simpa only [small] using h)
  | .str _, h => by simp [small] at h
  | .dict _, h => by simp [small] at h
theorem lays_small : ∀ {xs : List PyData}, smalls xs = true → PyData.canLayAll0 xs = true ∧ PyData.showableAll xs = true ∧ PyData.intsShortAll 13 xs = true
  | [], _ => ⟨rfl, rfl, rfl⟩
  | x :: r, h => by
    rw [smalls, Bool.and_eq_true] at h
    obtain ⟨a1, a2, a3⟩ := lay_small h.1
    obtain ⟨b1, b2, b3⟩ := lays_small h.2
    refine ⟨?_, ?_, ?_⟩
    · rw [PyData.canLayAll0, a1, b1]; rfl
    · rw [PyData.showableAll, a2, b2]; rfl
    · rw [PyData.intsShortAll, a3, b3]; rfl
end
/-- what is told apart by its text -/
structure Fit (p : PyData) : Prop where
  sm : small p = true
  dp : p.depth ≤ 64
  wt : p.weight ≤ 2 ^ 20
theorem Fit.shaped {p : PyData} (h : Fit p) : SeqAt.shaped p = true := by
  unfold SeqAt.shaped
  rw [(lay_small h.sm).1, decide_eq_true h.dp]; rfl
theorem Fit.len {p : PyData} (h : Fit p) : p.shown.length ≤ sizeLine :=
  Nat.le_trans (PyProof.Rows.shown_le13 (by
    unfold PyData.layable0
    rw [(lay_small h.sm).1, decide_eq_true h.dp, decide_eq_true h.wt]; rfl) (lay_small h.sm).2.2) (by decide)
theorem Fit.str {p : PyData} (h : Fit p) : SeqAt.shaped (.str p.shown) = true := by
  unfold SeqAt.shaped
  rw [show (PyData.str p.shown).canLay0 = PyData.strOk p.shown from rfl, all_chars _ fun k hk => free_small hk h.sm]; rfl
section
variable {S : List O} {P : D → List O → Prop}
theorem r_reprF {d : D} {ds : List D} {p : PyData} (h : Fit p) (e : d.toPy = some p) (ei : d.items = some ds) : Run (reprD [d]) S P ↔ P (.str p.shown) S := by
  refine run_eq ?_
  simp only [reprD, ei, e]
  rw [if_pos ⟨h.shaped, (lay_small h.sm).2.1, h.len⟩]
  rfl
theorem r_neF {p : PyData} (h : Fit p) : Run (neD (.str p.shown) (.str p.shown)) S P ↔ P (.bl false) S := by
  refine run_eq ?_
  show eqP not _ _ S = _
  have e : ∀ t : Str, (D.str t).toPy = some (.str t) := fun _ => rfl
  simp only [eqP, e]
  rw [if_pos ⟨h.str, h.str⟩, SeqAt.eqv_refl _ (Bool.and_eq_true_iff.mp h.str).1]
  rfl
end
/-! rows of ints -/
theorem smalls_int : ∀ {l : List Int}, (∀ x ∈ l, x.natAbs < 10 ^ 12) → smalls (l.map .int) = true
  | [], _ => rfl
  | x :: r, h => by
    rw [List.map_cons, smalls, smalls_int fun y hy => h y (List.mem_cons_of_mem _ hy)]
    simp only [small, decide_eq_true (h x List.mem_cons_self)]; rfl
theorem weight_int : ∀ {l : List Int}, (∀ x ∈ l, x.natAbs < 10 ^ 12) → PyData.weightAll (l.map .int) ≤ 42 * l.length
  | [], _ => Nat.le_refl _
  | x :: r, h => by
    have ih := weight_int (l := r) fun y hy => h y (List.mem_cons_of_mem _ hy)
    have hx := h x List.mem_cons_self
    rw [List.map_cons, PyData.weightAll, List.length_cons]
    have : PyData.weight (.int x) ≤ 41 := by
      unfold PyData.weight
      split
      · omega
      · rename_i hz
        have hz : x.natAbs ≠ 0 := by simpa using hz
        have : x.natAbs.log2 < 40 := (Nat.log2_lt hz).mpr (Nat.lt_trans hx (by decide))
        omega
    omega
theorem depth_int : ∀ l : List Int, PyData.depthAll (l.map .int) = 0
  | [] => rfl
  | x :: r => by simp [PyData.depthAll, PyData.depth, depth_int r]
end Pm

set_option Elab.async false
set_option linter.all false
set_option maxRecDepth 100000
set_option maxHeartbeats 600000
/-! Pm23: dicts that change (their keys ints or texts): made, asked, stored into, updated, sorted; instances that change. -/
namespace Pm
open PySem PySem.Spec PyProof.Rows L2
/-! ### pairs -/
def putP (kvs : List (Key × D)) (k : Key) (v : D) : List (Key × D) :=
  if (kvs.any fun kv => decide (kv.1 = k)) = true then kvs.map (fun kv => if kv.1 = k then (kv.1, v) else kv) else kvs ++ [(k, v)]
structure KVr (K : PySem.W.Frag) (mg : Str → Option Value) (W : Wd) (a : List (Key × V)) (b : List (Key × D)) : Prop where
  ks : a.map (·.1) = b.map (·.1)
  vs : IsVs K mg W (a.map (·.2)) (b.map (·.2))
section
variable {K : PySem.W.Frag} {mg : Str → Option Value} {W W' : Wd} {a : List (Key × V)} {b : List (Key × D)} {k : Key} {v : V} {d : D}
theorem KVr.nil : KVr K mg W [] [] := ⟨rfl, .nil⟩
theorem KVr.mono (le : W.le W') (h : KVr K mg W a b) : KVr K mg W' a b := ⟨h.ks, h.vs.mono le⟩
theorem KVr.len (h : KVr K mg W a b) : a.length = b.length := by have := congrArg List.length h.ks; rwa [List.length_map, List.length_map] at this
theorem any_keys {α β : Type} {k : Key} : ∀ {a : List (Key × α)} {b : List (Key × β)}, a.map (·.1) = b.map (·.1) → (a.any fun kv => decide (kv.1 = k)) = (b.any fun kv => decide (kv.1 = k))
  | [], [], _ => rfl
  | x :: a, y :: b, h => by
    simp only [List.map_cons, List.cons.injEq] at h
    rw [List.any_cons, List.any_cons, h.1, any_keys h.2]
  | [], _ :: _, h => by simp at h
  | _ :: _, [], h => by simp at h
theorem KVr.put (h : KVr K mg W a b) (hv : IsV K mg W v d) : KVr K mg W (putK a k v) (putP b k d) := by
  unfold putK putP
  rw [any_keys h.ks]
  split
  · refine ⟨?_, ?_⟩
    · rw [List.map_map, List.map_map]
      have e1 : (fun kv : Key × V => (if kv.1 = k then (kv.1, v) else kv).1) = fun kv => kv.1 := funext fun kv => by split <;> rfl
      have e2 : (fun kv : Key × D => (if kv.1 = k then (kv.1, d) else kv).1) = fun kv => kv.1 := funext fun kv => by split <;> rfl
      show a.map (fun kv => (if kv.1 = k then (kv.1, v) else kv).1) = b.map (fun kv => (if kv.1 = k then (kv.1, d) else kv).1)
      rw [e1, e2]; exact h.ks
    · have go : ∀ {a : List (Key × V)} {b : List (Key × D)}, KVr K mg W a b → IsVs K mg W ((a.map fun kv => if kv.1 = k then (kv.1, v) else kv).map (·.2)) ((b.map fun kv => if kv.1 = k then (kv.1, d) else kv).map (·.2)) := fun {a} => by
        induction a with
        | nil => intro b h; cases b with
          | nil => exact .nil
          | cons _ _ => have := h.ks; simp at this
        | cons x a ih => intro b h; cases b with
          | nil => have := h.ks; simp at this
          | cons y b =>
            have h1 := h.ks
            have h2 := h.vs
            simp only [List.map_cons, List.cons.injEq] at h1 h2 ⊢
            cases h2 with
            | cons i1 i2 =>
              refine .cons ?_ (ih ⟨h1.2, i2⟩)
              rw [← h1.1]
              split
              · exact hv
              · exact i1
      exact go h
  · exact ⟨by rw [List.map_append, List.map_append, h.ks]; rfl, by rw [List.map_append, List.map_append]; exact h.vs.append (.cons hv .nil)⟩
def mergeP (kvs more : List (Key × D)) : List (Key × D) := more.foldl (fun acc kv => putP acc kv.1 kv.2) kvs
theorem KVr.merge : ∀ {c : List (Key × V)} {e : List (Key × D)} {a : List (Key × V)} {b : List (Key × D)}, KVr K mg W a b → KVr K mg W c e → KVr K mg W (mergeK a c) (mergeP b e)
  | [], [], _, _, h, _ => h
  | [], _ :: _, _, _, _, q => by have := q.ks; simp at this
  | _ :: _, [], _, _, _, q => by have := q.ks; simp at this
  | x :: c, y :: e, a, b, h, q => by
    have h1 := q.ks
    have h2 := q.vs
    simp only [List.map_cons, List.cons.injEq] at h1 h2
    cases h2 with
    | cons i1 i2 =>
      show KVr K mg W (mergeK (putK a x.1 x.2) c) (mergeP (putP b y.1 y.2) e)
      rw [h1.1]
      exact KVr.merge (h.put i1) ⟨h1.2, i2⟩
theorem zip_of {a : List (Key × V)} {ks : List Key} {ds : List D} (h : ks = a.map (·.1)) (i : IsVs K mg W (a.map (·.2)) ds) : KVr K mg W a (ks.zip ds) := by
  have hl : ks.length = ds.length := by rw [h, List.length_map]; have := i.length; rwa [List.length_map] at this
  exact ⟨by rw [← h, List.map_fst_zip (by omega)], by rw [List.map_snd_zip (by omega)]; exact i⟩
theorem pures_putP (hd : d.pure = true) : ∀ {b : List (Key × D)}, D.pures (b.map (·.2)) = true → D.pures ((putP b k d).map (·.2)) = true := fun {b} h => by
  unfold putP
  split
  · rename_i q
    clear q
    induction b with
    | nil => rfl
    | cons x b ih =>
      simp only [List.map_cons, D.pures, Bool.and_eq_true] at h ⊢
      refine ⟨?_, ih h.2⟩
      split
      · exact hd
      · exact h.1
  · rw [List.map_append]
    have go : ∀ {l : List D}, D.pures l = true → D.pures (l ++ [d]) = true := fun {l} => by
      induction l with
      | nil => intro _; show (d.pure && true) = true; rw [hd]; rfl
      | cons x l ih => intro h; simp only [List.cons_append, D.pures, Bool.and_eq_true] at h ⊢; exact ⟨h.1, ih h.2⟩
    exact go h
theorem len_putP (b : List (Key × D)) (k : Key) (d : D) : (putP b k d).length ≤ b.length + 1 := by
  unfold putP
  split
  · rw [List.length_map]; omega
  · rw [List.length_append]; exact Nat.le_refl _
end
/-- a dict as a state's object -/
def O.ofP (b : List (Key × D)) : O := .dic (b.map (·.1)) (b.map (·.2))
theorem orel_ofP {K : PySem.W.Frag} {mg : Str → Option Value} {W : Wd} {H : Hp} {x : Addr} {a : List (Key × V)} {b : List (Key × D)} (h : KVr K mg W a b) (e : H x = some (HO.dK a)) (hp : D.pures (b.map (·.2)) = true) : ORel K mg W H x (O.ofP b) := ⟨a, e, h.ks.symm, h.vs, hp⟩
/-! ### new dicts that nothing else knows -/
def GoF (K : PySem.W.Frag) (mg : Str → Option Value) (W : Wd) (H : Hp) (S' : List O) (b : List (Key × D)) (Q : VK) : Prop :=
  ∀ W' p a H', W.le W' → Frame W W' H H' → StRel K mg W' S' H' → H' p = some (.dK a) → KVr K mg W' a b → W'.Z p = none → (∀ l, l < W'.n → W'.r l ≠ p) → H p = none → Q (.ref p) H'
def tF (K : PySem.W.Frag) (mg : Str → Option Value) (m : Env → M (List (Key × D))) : TE := fun σ H Q =>
  ∃ (W : Wd) (env : Env) (S : List O), ERel K mg W env σ ∧ StRel K mg W S H ∧ ∃ b S', m env S = some (b, S') ∧ GoF K mg W H S' b Q
structure DnF (X : Cx) (e : Expr) (m : Env → M (List (Key × D))) : Prop where
  pe : PE X e (tF X.K X.mg m)
section
variable {X : Cx} {K : PySem.W.Frag} {mg : Str → Option Value}
theorem GoF.step {W W1 : Wd} {S S1 S2 : List O} {H H1 : Hp} {b : List (Key × D)} {Q : VK} (s : StRel K mg W S H) (le1 : W.le W1) (f1 : Frame W W1 H H1) (s1 : StRel K mg W1 S1 H1) (g : GoF K mg W H S2 b Q) : GoF K mg W1 H1 S2 b Q :=
  fun W' p a H' le f s' hp i hz hr hn => g W' p a H' (le1.trans le) (f1.trans s s1 le1 f le) s' hp i hz hr (f1.tr le1 s1 hn)
/-- a new object of the state -/
theorem StRel.share {W1 : Wd} {S1 : List O} {H1 : Hp} {a : Addr} {o : O} (s1 : StRel K mg W1 S1 H1) (za : W1.Z a = none) (ra : ∀ l, l < W1.n → W1.r l ≠ a) (ho : ∀ W2 : Wd, W1.le W2 → ORel K mg W2 H1 a o) :
    ∃ W2 : Wd, W1.le W2 ∧ StRel K mg W2 (S1 ++ [o]) H1 ∧ W2.n = W1.n + 1 ∧ W2.r W1.n = a ∧ W2.Z = W1.Z := by
  let W2 : Wd := { Z := W1.Z, r := fun l => if l = W1.n then a else W1.r l, n := W1.n + 1 }
  have le2 : W1.le W2 := ⟨fun _ _ h => h, Nat.le_succ _, fun l hl => if_neg (Nat.ne_of_lt hl)⟩
  have rn : W2.r W1.n = a := if_pos rfl
  refine ⟨W2, le2, ⟨?_, s1.zh, fun l hl => ?_, fun l l' hl hl' e => ?_, fun l o' e => ?_⟩, rfl, rn, rfl⟩
  · show W1.n + 1 = _
    rw [List.length_append, s1.len]; rfl
  · have hl : l < W1.n + 1 := hl
    by_cases q : l = W1.n
    · rw [q, rn]; exact za
    · rw [le2.r l (by omega)]; exact s1.zr l (by omega)
  · have hl : l < W1.n + 1 := hl
    have hl' : l' < W1.n + 1 := hl'
    by_cases q : l = W1.n
    · by_cases q' : l' = W1.n
      · omega
      · rw [q, rn, le2.r l' (by omega)] at e
        exact absurd e.symm (ra l' (by omega))
    · by_cases q' : l' = W1.n
      · rw [q', rn, le2.r l (by omega)] at e
        exact absurd e (ra l (by omega))
      · rw [le2.r l (by omega), le2.r l' (by omega)] at e
        exact s1.inj l l' (by omega) (by omega) e
  · by_cases q : l < S1.length
    · rw [List.getElem?_append_left q] at e
      rw [le2.r l (by rw [s1.len]; exact q)]
      exact (s1.ob l o' e).mono le2 rfl
    · have q3 : l = S1.length := by
        rw [List.getElem?_append_right (Nat.le_of_not_lt q)] at e
        cases z : l - S1.length with
        | zero => omega
        | succ m => rw [z] at e; simp at e
      subst q3
      rw [List.getElem?_append_right (Nat.le_refl _), Nat.sub_self] at e
      cases e
      rw [← s1.len, rn]
      exact ho W2 le2
theorem Frame.share {W W1 W2 : Wd} {H H1 : Hp} {a : Addr} (f1 : Frame W W1 H H1) (hn : W2.n = W1.n + 1) (hr : W2.r W1.n = a) (hz : W2.Z = W1.Z) (le : W1.le W2) (na : H a = none) : Frame W W2 H H1 :=
  ⟨f1.kp, fun l hl hl2 => by
    by_cases q : l = W1.n
    · rw [q, hr]; exact na
    · rw [le.r l (by omega)]; exact f1.fr l hl (by omega), fun b o e => f1.fz b o (by rw [← hz]; exact e)⟩
def shdD (b : List (Key × D)) : M D := fun S => if D.pures (b.map (·.2)) = true then some (.ref S.length, S ++ [O.ofP b]) else none
def shdM (m : Env → M (List (Key × D))) : Env → M D := fun env => bnd (m env) shdD
/-- a dict that is shared from now on -/
theorem x_shd {e : Expr} {m : Env → M (List (Key × D))} (h : DnF X e m) : Dn X e (shdM m) := ⟨PE.mono h.pe fun σ H Q ⟨W, env, S, er, s, d, S', h, g⟩ => by
  obtain ⟨b, S1, h1, h⟩ := bnd_some h
  unfold shdD at h
  split at h
  · rename_i hp
    cases h
    refine ⟨W, env, S, er, s, b, S1, h1, fun W1 p a H1 le1 f1 s1 ha ia za ra na => ?_⟩
    obtain ⟨W2, le2, s2, hn, hr, hz⟩ := s1.share (o := O.ofP b) za ra fun W2 le2 => orel_ofP (ia.mono le2) ha hp
    refine g W2 (.ref p) H1 (le1.trans le2) (f1.share hn hr hz le2 na) s2 ?_
    rw [← hr, ← s1.len]
    exact .ref (by rw [s1.len] at hn ⊢; rw [hn]; exact Nat.lt_succ_self _)
  · cases h⟩
def newM : Env → M (List (Key × D)) := fun _ => ret []
theorem x_dnew {pos : Pos} : DnF X (.Dict [] [] pos) newM := ⟨PE.mono pe_dnewK fun σ H Q ⟨W, env, S, er, s, b, S', h, g⟩ p hp => by
  cases h
  refine g W p [] (upd H p (.dK [])) (.refl W) ⟨fun a o e _ => by rw [upd_ne (ne_of_none e hp)]; exact e, fun l h k => absurd (Nat.lt_of_lt_of_le k h) (Nat.lt_irrefl _), fun a o e => .inl e⟩ ⟨s.len, fun a o e => by rw [upd_ne (ne_of_none (s.zh _ _ e) hp)]; exact s.zh _ _ e, s.zr, s.inj, fun l o e => (s.ob l o e).mono (.refl _) (by rw [upd_ne (s.ne hp (by rw [s.len]; exact (List.getElem?_eq_some_iff.mp e).1))])⟩ upd_same .nil ?_ (fun l hl => s.ne hp hl) hp
  cases q : W.Z p with
  | none => rfl
  | some u => rw [s.zh _ _ q] at hp; cases hp⟩
/-- {k: v, ..} -/
def dispP (ps : List (D × D)) : M (List (Key × D)) := match D.keys (ps.map (·.1)) with
  | some ks => if ks.Nodup ∧ ks.length ≤ 15 then ret (ks.zip (ps.map (·.2))) else stuck
  | none => stuck
def dsfM (m : Env → M (List (D × D))) : Env → M (List (Key × D)) := fun env => bnd (m env) dispP
theorem x_dsf {pos : Pos} {keys : List (Option Expr)} {values : List Expr} {m : Env → M (List (D × D))} (h : DnPs X pos keys values m) (hall : keys.all (·.isSome) = true := by rfl) (hl : keys.length = values.length := by rfl) (h0 : keys ≠ [] := by exact List.cons_ne_nil _ _)
    (h15 : keys.length ≤ 15 := by decide) : DnF X (.Dict keys values pos) (dsfM m) := by
  obtain ⟨trs, h1, h2⟩ := h.ex
  refine ⟨PE.mono (pe_disp h1 hall hl h0 h15) fun σ H Q ⟨W, env, S, e, s, d, S', hh, g⟩ p hp => ?_⟩
  obtain ⟨ps, S1, hx, hd⟩ := bnd_some hh
  have st : StRel X.K X.mg W S (upd H p (.dK [])) := ⟨s.len, fun a o e => by rw [upd_ne (ne_of_none (s.zh _ _ e) hp)]; exact s.zh _ _ e, s.zr, s.inj, fun l o e => (s.ob l o e).mono (.refl _) (by rw [upd_ne (s.ne hp (by rw [s.len]; exact (List.getElem?_eq_some_iff.mp e).1))])⟩
  have zp : W.Z p = none := by
    cases q : W.Z p with
    | none => rfl
    | some u => rw [s.zh _ _ q] at hp; cases hp
  refine h2 σ _ _ ⟨W, env, S, e, st, ps, S1, hx, fun W1 qs H1 le1 f1 s1 j1 j2 => ?_⟩
  have hp1 : H1 p = some (.dK []) := f1.kp p _ upd_same fun l hl => s.ne hp hl
  refine ⟨hp1, ?_⟩
  cases q : D.keys (ps.map (·.1)) with
  | none => simp [dispP, q, stuck] at hd
  | some ks =>
    simp only [dispP, q] at hd
    split at hd
    · rename_i hc
      cases hd
      have ek := keys_is j1 q
      have hlen : ks.length = qs.length := by have := congrArg List.length ek; rw [List.length_map, List.length_map] at this; exact this.symm
      have e1 : qs = (ks.zip (qs.map (·.2))).map (fun kv => (kV kv.1, kv.2)) := by
        have z : ∀ {ks : List Key} {qs : List (V × V)}, qs.map (·.1) = ks.map kV → qs = (ks.zip (qs.map (·.2))).map (fun kv => (kV kv.1, kv.2)) := fun {ks} => by
          induction ks with
          | nil => intro qs h; cases qs with
            | nil => rfl
            | cons _ _ => simp at h
          | cons k ks ih => intro qs h; cases qs with
            | nil => simp at h
            | cons q qs =>
              simp only [List.map_cons, List.cons.injEq, List.zip_cons_cons] at h ⊢
              exact ⟨Prod.ext h.1 rfl, ih h.2⟩
        exact z ek
      have m1 : ((ks.zip (qs.map (·.2))).map (·.1)) = ks := List.map_fst_zip (by rw [List.length_map]; omega)
      have m2 : ((ks.zip (qs.map (·.2))).map (·.2)) = qs.map (·.2) := List.map_snd_zip (by rw [List.length_map]; omega)
      refine ⟨ks.zip (qs.map (·.2)), e1, by rw [List.length_zip]; omega, ?_⟩
      rw [mergeK_nodup _ [] (by rw [List.nil_append, m1]; exact hc.1), List.nil_append]
      have r1 : ∀ l, l < W1.n → W1.r l ≠ p := fun l hl z => by
        by_cases hn : l < W.n
        · exact s.ne hp hn (by rw [← le1.r l hn]; exact z)
        · have := f1.fr l (Nat.le_of_not_lt hn) hl
          rw [z, upd_same] at this; cases this
      have z1 : W1.Z p = none := by
        cases q : W1.Z p with
        | none => rfl
        | some u =>
          rcases f1.fz p u q with y | y
          · rw [zp] at y; cases y
          · rw [upd_same] at y; cases y
      have hds : qs.length = ps.length := by have := j2.length; rwa [List.length_map, List.length_map] at this
      refine g W1 p _ _ le1 ⟨fun a u e hr => ?_, fun l h1 h2 => ?_, fun a u e => ?_⟩ ⟨s1.len, fun a u e => ?_, s1.zr, s1.inj, fun l u e => ?_⟩ upd_same ⟨by rw [m1, List.map_fst_zip (by rw [List.length_map]; omega)], by rw [m2, List.map_snd_zip (by rw [List.length_map]; omega)]; exact j2⟩ z1 r1 hp
      · rw [upd_ne (ne_of_none e hp)]
        exact f1.kp a u (by rw [upd_ne (ne_of_none e hp)]; exact e) hr
      · have := f1.fr l h1 h2
        by_cases y : W1.r l = p
        · rw [y, upd_same] at this; cases this
        · rw [upd_ne y] at this; exact this
      · rcases f1.fz a u e with z | z
        · exact .inl z
        · by_cases y : a = p
          · rw [y]; exact .inr hp
          · rw [upd_ne y] at z; exact .inr z
      · rw [upd_ne (fun y => by rw [y, z1] at e; cases e)]; exact s1.zh a u e
      · exact (s1.ob l u e).mono (.refl _) (by rw [upd_ne (r1 l (by rw [s1.len]; exact (List.getElem?_eq_some_iff.mp e).1))])
    · cases hd
end
/-! ### dict comprehensions -/
def dcLoop (set : SetF) (mt : Env → M Bool) (mk mv : Env → M D) (w : Env) : List D → List (Key × D) → M (List (Key × D))
  | [], ac => ret ac
  | d :: r, ac => match set d w with
    | none => stuck
    | some e => bnd (mt e) fun k => if k = true then bnd (mk e) fun x => bnd (mv e) fun y => match D.key x with
      | some kk => dcLoop set mt mk mv w r (putP ac kk y)
      | none => stuck
      else dcLoop set mt mk mv w r ac
def dcM (vs : List Nat) (mi : Env → M (List D)) (set : SetF) (mt : Env → M Bool) (mk mv : Env → M D) : Env → M (List (Key × D)) := fun env => bnd (mi env) fun ds => if ds.length < sizeLine then dcLoop set mt mk mv (wipeE env vs) ds [] else stuck
section
variable {X : Cx} {vs : List Nat} {mi : Env → M (List D)} {set : SetF} {mt : Env → M Bool} {mk mv : Env → M D} {g : TG}
theorem dc_run {K : PySem.W.Frag} {mg : Str → Option Value} {σ : L2.St} {H : Hp} {Q : VK} (hg : GS K mg g vs set) (h : tF K mg (dcM vs mi set mt mk mv) σ H Q) : tDc (tI K mg mi) g (tT K mg mt) (tE K mg mk) (tE K mg mv) vs σ H Q := by
  obtain ⟨W, env, S, e, s, tot, S', h, go⟩ := h
  obtain ⟨ds, S1, h1, h⟩ := bnd_some h
  split at h
  · rename_i hz
    refine ⟨W, env, S, e, s, ds, S1, h1, fun W1 J H1 le1 f1 s1 jr => ?_⟩
    intro D hD
    refine ⟨fun i m H2 => i + m = ds.length ∧ ∃ W2 S2 acc accd, W1.le W2 ∧ Frame W1 W2 H1 H2 ∧ StRel K mg W2 S2 H2 ∧ H2 D = some (.dK acc) ∧ KVr K mg W2 acc accd ∧ W2.Z D = none ∧ (∀ l, l < W2.n → W2.r l ≠ D) ∧
      dcLoop set mt mk mv (wipeE env vs) (ds.drop i) accd S2 = some (tot, S') ∧ accd.length ≤ i, ⟨ds.length, by omega, W1, S1, [], [], .refl _, ?_, ?_, upd_same, .nil, ?_, fun l hl => s1.ne hD hl, by rw [List.drop_zero]; exact h, Nat.le_refl _⟩, fun i m H2 hW => ?_⟩
    · exact ⟨fun a o e _ => by rw [upd_ne (ne_of_none e hD)]; exact e, fun l h k => absurd (Nat.lt_of_lt_of_le k h) (Nat.lt_irrefl _), fun a o e => .inl e⟩
    · refine ⟨s1.len, fun a o e => by rw [upd_ne (ne_of_none (s1.zh _ _ e) hD)]; exact s1.zh _ _ e, s1.zr, s1.inj, fun l o e => ?_⟩
      have hl : l < W1.n := by rw [s1.len]; exact (List.getElem?_eq_some_iff.mp e).1
      exact (s1.ob l o e).mono (.refl _) (by rw [upd_ne (s1.ne hD hl)])
    · cases q : W1.Z D with
      | none => rfl
      | some u => rw [s1.zh _ _ q] at hD; cases hD
    · obtain ⟨him, W2, S2, acc, accd, le2, f2, s2, hDl, ia, zD, rD, hl, hlen⟩ := hW
      have jr2 := jr W2 S2 H2 le2 s2
      by_cases hi : i < ds.length
      · refine .inr ?_
        have hd : ds[i]? = some ds[i] := List.getElem?_eq_getElem hi
        obtain ⟨jgo, jy⟩ := jr2.1 i _ hd
        rw [List.drop_eq_getElem_cons hi] at hl
        simp only [dcLoop] at hl
        cases hset : set ds[i] (wipeE env vs) with
        | none => rw [hset] at hl; cases hl
        | some env2 =>
          rw [hset] at hl
          obtain ⟨b, S3, ht, hl⟩ := bnd_some hl
          refine ⟨jgo, fun H' => i + 1 + (m - 1) = ds.length ∧ ∃ W2 S2 acc accd, W1.le W2 ∧ Frame W1 W2 H1 H' ∧ StRel K mg W2 S2 H' ∧ H' D = some (.dK acc) ∧ KVr K mg W2 acc accd ∧ W2.Z D = none ∧ (∀ l, l < W2.n → W2.r l ≠ D) ∧
            dcLoop set mt mk mv (wipeE env vs) (ds.drop (i + 1)) accd S2 = some (tot, S') ∧ accd.length ≤ i + 1, fun H' hN => ⟨m - 1, by omega, hN⟩, fun x H3 hy => ?_⟩
          obtain ⟨W3, le3, f3, s3, ix⟩ := jy x H3 hy
          have keep : ∀ {Wa Wb : Wd} {Sb : List O} {Ha Hb : Hp}, Ha D = some (.dK acc) → Wa.Z D = none → (∀ l, l < Wa.n → Wa.r l ≠ D) → Wa.le Wb → Frame Wa Wb Ha Hb → StRel K mg Wb Sb Hb → Hb D = some (.dK acc) ∧ Wb.Z D = none ∧ (∀ l, l < Wb.n → Wb.r l ≠ D) := fun {Wa Wb Sb Ha Hb} k1 k2 k3 kl kf ks => by
            refine ⟨kf.kp _ _ k1 k3, ?_, fun l hl q => ?_⟩
            · cases q : Wb.Z D with
              | none => rfl
              | some u =>
                rcases kf.fz _ _ q with z | z
                · rw [k2] at z; cases z
                · rw [k1] at z; cases z
            · by_cases hn : l < Wa.n
              · exact k3 l hn (by rw [← kl.r l hn]; exact q)
              · have := kf.fr l (Nat.le_of_not_lt hn) hl
                rw [q, k1] at this; cases this
          obtain ⟨a3, b3, c3⟩ := keep hDl zD rD le3 f3 s3
          have e3 : ERel K mg W3 env σ := ((e.mono le1).mono le2).mono le3
          refine hg.run W3 S2 H3 (wipeE env vs) env2 (L2.wipe σ vs) x ds[i] _ s3 (e3.wipe vs) ix hset fun σ2 er hw => ⟨by rw [hw, wipe_wipe], ?_⟩
          refine ⟨W3, env2, S2, er, s3, b, S3, ht, fun W4 H4 le4 f4 s4 => ?_⟩
          obtain ⟨a4, b4, c4⟩ := keep a3 b3 c3 le4 f4 s4
          have fr4 : Frame W1 W4 H1 H4 := (f2.trans s1 s2 le2 f3 le3).trans s1 s3 (le2.trans le3) f4 le4
          have le14 : W1.le W4 := (le2.trans le3).trans le4
          show if b = true then _ else _
          cases b with
          | false =>
            rw [if_neg Bool.false_ne_true] at hl ⊢
            exact ⟨by omega, W4, S3, acc, accd, le14, fr4, s4, a4, ia.mono (le3.trans le4), b4, c4, hl, by omega⟩
          | true =>
            rw [if_pos rfl] at hl ⊢
            obtain ⟨x, S4, hx2, hl⟩ := bnd_some hl
            obtain ⟨y, S5, hy2, hl⟩ := bnd_some hl
            cases hk : Pm.D.key x with
            | none => rw [hk] at hl; cases hl
            | some kk =>
              rw [hk] at hl
              refine ⟨W4, env2, S3, er.mono le4, s4, x, S4, hx2, fun W5 v5 H5 le5 f5 s5 i5 => ?_⟩
              obtain ⟨a5, b5, c5⟩ := keep a4 b4 c4 le5 f5 s5
              refine ⟨W5, env2, S4, (er.mono le4).mono le5, s5, y, S5, hy2, fun W6 v6 H6 le6 f6 s6 i6 => ?_⟩
              obtain ⟨a6, b6, c6⟩ := keep a5 b5 c5 le6 f6 s6
              have hll : acc.length = accd.length := ia.len
              have hpl := len_putP accd kk y
              refine ⟨acc, kk, i5.key hk, a6, by omega, by omega, W6, S5, putK acc kk v6, putP accd kk y, (le14.trans le5).trans le6, ?_, ?_, upd_same, (ia.mono (((le3.trans le4).trans le5).trans le6)).put i6, b6, c6, hl, by omega⟩
              · have fr6 := (fr4.trans s1 s4 le14 f5 le5).trans s1 s5 (le14.trans le5) f6 le6
                exact ⟨fun a o e hr => by rw [upd_ne (ne_of_none e hD)]; exact fr6.kp a o e hr, fr6.fr, fr6.fz⟩
              · refine ⟨s6.len, fun a o e => ?_, s6.zr, s6.inj, fun l o e => ?_⟩
                · rw [upd_ne (fun q => by rw [q, b6] at e; cases e)]; exact s6.zh _ _ e
                · have hl : l < W6.n := by rw [s6.len]; exact (List.getElem?_eq_some_iff.mp e).1
                  exact (s6.ob l o e).mono (.refl _) (by rw [upd_ne (c6 l hl)])
      · refine .inl ?_
        have hi2 : i = ds.length := by omega
        subst hi2
        rw [List.drop_length] at hl
        cases hl
        exact ⟨jr2.2, go W2 D acc H2 (le1.trans le2) (f1.trans s s1 le1 f2 le2) s2 hDl ia zD rD (f1.tr le1 s1 hD)⟩
  · cases h
theorem x_dc {kx vx tg iter : Expr} {ifs : List Expr} {scope : Scope} {own : List (Str × Nat)} {pos : Pos} (hc : X.calm = true) (hN : X.N.Nodup) (hi : DnI X tg iter mi) (ok : BlkOk X.N X.env.scope scope own) (hs : GS X.K X.mg g (own.map (·.2)) set)
    (hg : ∀ (s : Shared) (H : Hp) (C : Addr) (cl : List (Str × Addr)) (fp : List Addr), PG (X.blk s H scope (compEnvC scope cl C X.env) fp) tg g) (ht : ∀ (s : Shared) (H : Hp) (C : Addr) (cl : List (Str × Addr)) (fp : List Addr), DnTs (X.blk s H scope (compEnvC scope cl C X.env) fp) ifs mt)
    (hk : ∀ (s : Shared) (H : Hp) (C : Addr) (cl : List (Str × Addr)) (fp : List Addr), Dn (X.blk s H scope (compEnvC scope cl C X.env) fp) kx mk)
    (he : ∀ (s : Shared) (H : Hp) (C : Addr) (cl : List (Str × Addr)) (fp : List Addr), Dn (X.blk s H scope (compEnvC scope cl C X.env) fp) vx mv) (hf : ∀ x, foldedSetIterable iter X.env x = pure x := by intro _; rfl) :
    DnF X (.DictComp kx vx [⟨tg, iter, ifs, 0⟩] scope pos) (dcM (own.map (·.2)) mi set mt mk mv) :=
  ⟨PE.mono (pe_dc hc hN hi.pi ok hg (fun s H C cl fp => (ht s H C cl fp).pt) (fun s H C cl fp => (hk s H C cl fp).pe) (fun s H C cl fp => (he s H C cl fp).pe) hf) fun _ _ _ h => dc_run hs h⟩
end
end Pm

set_option Elab.async false
set_option linter.all false
set_option maxRecDepth 100000
set_option maxHeartbeats 600000
/-! Pm24: what is done with dicts that change; pop(0), extend; instances that change. -/
namespace Pm
open PySem PySem.Spec PyProof.Rows L2
section
variable {X : Cx} {K : PySem.W.Frag} {mg : Str → Option Value}
/-! ### in, not in -/
def rDin : R2 := fun x y H Q => ∃ a o, y = .ref a ∧ DGet H a x o ∧ Q (.bl o.isSome) H
def rDnin : R2 := fun x y H Q => ∃ a o, y = .ref a ∧ DGet H a x o ∧ Q (.bl (!o.isSome)) H
theorem op_din (hu : X.A.units + 1 < cLine) : OpR X (compareOp .In) rDin := fun pins s σ H x y v u Q I rx ry ⟨a, o, ey, g, q⟩ => by
  subst ey
  cases ry
  exact d_in hu I g rx fun s3 I3 => ⟨.bl o.isSome, H, I3, rfl, q⟩
theorem op_dnin (hu : X.A.units + 1 < cLine) : OpR X (compareOp .NotIn) rDnin := fun pins s σ H x y v u Q I rx ry ⟨a, o, ey, g, q⟩ => by
  subst ey
  cases ry
  exact d_notIn hu I g rx fun s3 I3 => ⟨.bl (!o.isSome), H, I3, rfl, q⟩
def dinP (g : Bool → Bool) (x y : D) : M D := match D.key x, y with
  | some k, .ref l => fun S => match S[l]? with
    | some (.dic ks _) => some (.bl (g (ks.any fun q => decide (q = k))), S)
    | _ => none
  | _, _ => stuck
def dinD : D → D → M D := dinP id
def dninD : D → D → M D := dinP not
theorem dinP_some {g : Bool → Bool} {x y z : D} {S S' : List O} (h : dinP g x y S = some (z, S')) : ∃ k l ks ds, D.key x = some k ∧ y = .ref l ∧ S[l]? = some (.dic ks ds) ∧ z = .bl (g (ks.any fun q => decide (q = k))) ∧ S' = S := by
  cases e : D.key x with
  | none => simp [dinP, e, stuck] at h
  | some k =>
    cases y with
    | ref l =>
      simp only [dinP, e] at h
      cases q : S[l]? with
      | none => rw [q] at h; cases h
      | some o => cases o with
        | dic ks ds => rw [q] at h; cases h; exact ⟨k, l, ks, ds, rfl, rfl, q, rfl, rfl⟩
        | _ => rw [q] at h; cases h
    | _ => simp [dinP, e, stuck] at h
theorem valV_in {k : Key} : ∀ kvs : List (Key × V), (valV kvs k).isSome = (kvs.map (·.1)).any fun q => decide (q = k)
  | [] => rfl
  | p :: r => by
    rw [List.map_cons, List.any_cons]
    by_cases h : p.1 = k
    · rw [valV_pos h, decide_eq_true h]; rfl
    · rw [valV_neg h, valV_in r, decide_eq_false h, Bool.false_or]
theorem rs_din : RS2 K mg rDin dinD := fun W S H x y d e z S' Q s i j q k => by
  obtain ⟨kk, l, ks, ds, h1, rfl, h2, rfl, rfl⟩ := dinP_some q
  have z := i.key h1
  subst z
  cases j with
  | ref hl =>
    obtain ⟨kvs, e1, e2, e3, e4⟩ := s.ob l _ h2
    subst e2
    exact ⟨_, _, rfl, DGet.k e1, by rw [valV_in]; exact k.here s (.bl _)⟩
theorem rs_dnin : RS2 K mg rDnin dninD := fun W S H x y d e z S' Q s i j q k => by
  obtain ⟨kk, l, ks, ds, h1, rfl, h2, rfl, rfl⟩ := dinP_some q
  have z := i.key h1
  subst z
  cases j with
  | ref hl =>
    obtain ⟨kvs, e1, e2, e3, e4⟩ := s.ob l _ h2
    subst e2
    exact ⟨_, _, rfl, DGet.k e1, by rw [valV_in]; exact k.here s (.bl _)⟩
theorem o_din {j : Nat} (hr : Room j X.A) : OpR X (compareOp .In) rDin := op_din (un1 hr)
theorem o_dnin {j : Nat} (hr : Room j X.A) : OpR X (compareOp .NotIn) rDnin := op_dnin (un1 hr)
/-! ### d[k] = v -/
def dputD (o i v : D) : M Unit := match o, D.key i with
  | .ref l, some k => fun S => match S[l]? with
    | some (.dic ks ds) => if v.pure = true ∧ ks.length < sizeLine then some ((), S.set l (O.ofP (putP (ks.zip ds) k v))) else none
    | _ => none
  | _, _ => stuck
def dputM (me mo mi : Env → M D) : MS := fun env => bnd (evS me env) fun v => bnd (mo (str env)) fun o => bnd (mi (str env)) fun i => bnd (dputD o i v) fun _ => ret (.nx env)
theorem dputD_some {o i v : D} {u : Unit} {S S' : List O} (h : dputD o i v S = some (u, S')) : ∃ l k ks ds, o = .ref l ∧ D.key i = some k ∧ S[l]? = some (.dic ks ds) ∧ v.pure = true ∧ ks.length < sizeLine ∧ S' = S.set l (O.ofP (putP (ks.zip ds) k v)) := by
  cases o with
  | ref l =>
    cases e : D.key i with
    | none => simp [dputD, e, stuck] at h
    | some k =>
      simp only [dputD, e] at h
      cases q : S[l]? with
      | none => rw [q] at h; cases h
      | some o => cases o with
        | dic ks ds =>
          rw [q] at h
          simp only at h
          split at h
          · rename_i hc
            cases h
            exact ⟨l, k, ks, ds, rfl, rfl, q, hc.1, hc.2, rfl⟩
          · cases h
        | _ => rw [q] at h; cases h
  | _ => simp [dputD, stuck] at h
theorem x_dput {o i e : Expr} {me mo mi : Env → M D} {p pos : Pos} {j : Nat} (hr : Room j X.A) (he : Dn X e me) (ho : Dn X o mo) (hi : Dn X i mi) (hs : swapsWith e (some (.Subscript o i p)) pos.line X.env = pure false := by rfl) : Ds X (.Assign [.Subscript o i p] e pos) (dputM me mo mi) :=
  ⟨PS.mono (ps_dput (un1 hr) ho.pe hi.pe he.pe hs) fun D σ H ⟨W, env, S, r, s, fl, S', h, g⟩ => by
    obtain ⟨v, S1, h1, h⟩ := bnd_some h
    obtain ⟨ov, S2, h2, h⟩ := bnd_some h
    obtain ⟨iv, S3, h3, h⟩ := bnd_some h
    obtain ⟨u, S4, h4, h⟩ := bnd_some h
    cases h
    obtain ⟨l, k, ks, ds, rfl, hk, hl, hp, hz, rfl⟩ := dputD_some h4
    refine evS_run r s h1 fun W1 v1 H1 le1 f1 r1 s1 i1 => ?_
    refine ⟨W1, str env, S1, r1.strict, s1, _, S2, h2, fun W2 v2 H2 le2 f2 s2 i2 => ?_⟩
    refine ⟨W2, str env, S2, r1.strict.mono le2, s2, iv, S3, h3, fun W3 v3 H3 le3 f3 s3 i3 => ?_⟩
    have i2 := i2.mono le3
    have z := i3.key hk
    subst z
    cases i2 with
    | ref hln =>
      obtain ⟨kvs, e1, e2, e3, e4⟩ := s3.ob l _ hl
      have kv := zip_of e2 e3
      have hlen : ks.length = kvs.length := by rw [e2, List.length_map]
      refine ⟨_, _, rfl, DPut.k e1 (by omega), ?_⟩
      have hds : ks.length = ds.length := by have := e3.length; rw [List.length_map] at this; omega
      have st := sto_st (u := .dK (putK kvs k v1)) (o := O.ofP (putP (ks.zip ds) k v)) s3 hln (orel_ofP (kv.put ((i1.mono le2).mono le3)) upd_same (pures_putP hp (by rw [List.map_snd_zip (by omega)]; exact e4)))
      have ff := (f2.trans s1 s2 le2 f3 le3).trans s1 s3 (le2.trans le3) (sto_frame (u := .dK (putK kvs k v1)) s3 hln) (.refl _)
      have fr := f1.trans s s1 le1 ff (le2.trans le3)
      exact g W3 σ _ ((le1.trans le2).trans le3) (.of fr ((le1.trans le2).trans le3) st fun _ h => h) (r.step ((le1.trans le2).trans le3) fr) st⟩
/-! ### d.update(e) -/
def rUpd : V → List V → Hp → VK → Prop := fun x xs H Q => ∃ (a b : Addr) (kvs more : List (Key × V)), x = .ref a ∧ xs = [.ref b] ∧ a ≠ b ∧ H a = some (.dK kvs) ∧ H b = some (.dK more) ∧ kvs.length + more.length ≤ sizeLine ∧ Q .non (upd H a (.dK (mergeK kvs more)))
theorem mt_upd : MtR X "dict.update" rUpd := fun pins s σ H x xs v us Q I rx rs ⟨a, b, kvs, more, ex, exs, hab, ha, hb, hz, q⟩ => by
  subst ex exs
  cases rx
  obtain ⟨u, rfl, ru⟩ := vals1 rs
  cases ru
  obtain ⟨z, hd, vs, rel, dd⟩ := dk_of I.hok ha
  obtain ⟨z2, hd2, vs2, rel2, dd2⟩ := dk_of I.hok hb
  have l1 := rel.length
  have l2 := rel2.length
  refine call_meetsIn PySem.F.slot_dict_update dd.typeIs PySem.F.entry_dict_update (PySem.F.args_dict_update_2 _ _) (meets_dict_update (mixKind X.prog X.w) a b hab hd2) ⟨vs, vs2, dd, dd2, by omega, fun h' d1 _ sb => ?_⟩
  have hl := length_mergeK more kvs
  have he : ∃ q, h'.get? a = some q := let ⟨q, _, _, hq, _⟩ := d1; ⟨q, hq⟩
  exact ⟨.non, _, d_write I (by rw [ha]; exact True.intro) sb he (dk_new (by omega) hd (KV.merge rel2 rel) d1), rfl, q⟩
def updD (o : D) (b : List (Key × D)) : M D := match o with
  | .ref l => fun S => match S[l]? with
    | some (.dic ks ds) => if D.pures (b.map (·.2)) = true ∧ ks.length + b.length ≤ sizeLine then some (.non, S.set l (O.ofP (mergeP (ks.zip ds) b))) else none
    | _ => none
  | _ => stuck
theorem updD_some {o z : D} {b : List (Key × D)} {S S' : List O} (h : updD o b S = some (z, S')) : ∃ l ks ds, o = .ref l ∧ S[l]? = some (.dic ks ds) ∧ D.pures (b.map (·.2)) = true ∧ ks.length + b.length ≤ sizeLine ∧ z = .non ∧ S' = S.set l (O.ofP (mergeP (ks.zip ds) b)) := by
  cases o with
  | ref l =>
    simp only [updD] at h
    cases q : S[l]? with
    | none => rw [q] at h; cases h
    | some o => cases o with
      | dic ks ds =>
        rw [q] at h
        simp only at h
        split at h
        · rename_i hc
          cases h
          exact ⟨l, ks, ds, rfl, q, hc.1, hc.2, rfl, rfl⟩
        · cases h
      | _ => rw [q] at h; cases h
  | _ => simp [updD, stuck] at h
theorem pures_mergeP : ∀ {e b : List (Key × D)}, D.pures (b.map (·.2)) = true → D.pures (e.map (·.2)) = true → D.pures ((mergeP b e).map (·.2)) = true
  | [], _, h, _ => h
  | y :: e, b, h, q => by
    simp only [List.map_cons, D.pures, Bool.and_eq_true] at q
    exact pures_mergeP (e := e) (pures_putP q.1 h) q.2
def isdD (o : D) : M Unit := match o with
  | .ref l => fun S => match S[l]? with
    | some (.dic _ _) => some ((), S)
    | _ => none
  | _ => stuck
theorem isdD_some {o : D} {u : Unit} {S S' : List O} (h : isdD o S = some (u, S')) : ∃ l ks ds, o = .ref l ∧ S[l]? = some (.dic ks ds) ∧ S' = S := by
  cases o with
  | ref l =>
    simp only [isdD] at h
    cases q : S[l]? with
    | none => rw [q] at h; cases h
    | some o => cases o with
      | dic ks ds => rw [q] at h; cases h; exact ⟨l, ks, ds, rfl, q, rfl⟩
      | _ => rw [q] at h; cases h
  | _ => simp [isdD, stuck] at h
def updM (mo : Env → M D) (mf : Env → M (List (Key × D))) : Env → M D := fun env => bnd (mo env) fun o => bnd (isdD o) fun _ => bnd (mf env) fun b => updD o b
theorem x_upd {o e : Expr} {mo : Env → M D} {mf : Env → M (List (Key × D))} {apos cpos : Pos} (ho : Dn X o mo) (he : DnF X e mf)
    (hb : attributeBase o "update" X.env (eval o X.env) = eval o X.env := by rfl)
    (hf : ((backTo cpos (starEach (e :: []) X.env)).all (fun x => !x.1) && (backToKw cpos (keywordEach [] X.env)).all (fun x => x.1.isSome) && decide ((e :: []).length + ([] : List Keyword).length + (if ([] : List Keyword).isEmpty then 0 else 1) < 30)) = true := by rfl)
    (hl : (apos.endLine == cpos.line) = true := by rfl) (hs : starEach (e :: []) X.env = (false, eval e X.env) :: starEach [] X.env := by rfl) (hp : (backTo cpos (starEach [] X.env)).any (·.1) = false := by rfl) :
    Dn X (.Call (.Attribute o "update" apos) [e] [] cpos) (updM mo mf) :=
  ⟨PE.mono (pe_bm PySem.F.plainAttrs_dict PySem.F.slot_dict_update PySem.F.type_dict_update mt_upd ho.pe (pa_cons he.pe pa_nil hs) hb hf hl hs hp) fun σ H Q ⟨W, env, S, er, s, d, S', h, g⟩ => by
    obtain ⟨x, S1, h1, h⟩ := bnd_some h
    have h : bnd (isdD x) (fun _ => bnd (mf env) fun b => updD x b) S1 = some (d, S') := h
    obtain ⟨u0, S0, h0, hA⟩ := bnd_some (f := fun _ => bnd (mf env) fun b => updD x b) h
    clear h
    obtain ⟨l0, ks0, ds0, rfl, hl0, e0⟩ := isdD_some h0
    subst e0
    have h : bnd (mf env) (fun b => updD (D.ref l0) b) S0 = some (d, S') := hA
    obtain ⟨b, S2, h2, h⟩ := bnd_some h
    have h : updD (D.ref l0) b S2 = some (d, S') := h
    obtain ⟨l, ks, ds, el, hl, hpb, hz, rfl, rfl⟩ := updD_some h
    cases el
    refine ⟨W, env, S, er, s, _, S0, h1, fun W1 v1 H1 le1 f1 s1 i1 => ?_⟩
    cases i1 with
    | ref hln =>
      obtain ⟨kvs1, ek1, _⟩ := s1.ob _ _ hl0
      refine ⟨.inr (.inr (.inl ⟨rfl, .inl ⟨kvs1, ek1⟩⟩)), W1, env, S0, er.mono le1, s1, b, S2, h2, fun W2 p a H2 le2 f2 s2 ha ia za ra na => ?_⟩
      obtain ⟨kvs, e1, e2, e3, e4⟩ := s2.ob l0 _ hl
      have hr2 : W2.r l0 = W1.r l0 := le2.r l0 hln
      have hn2 : l0 < W2.n := Nat.lt_of_lt_of_le hln le2.n
      have kv := zip_of e2 e3
      have hlen : ks.length = kvs.length := by rw [e2, List.length_map]
      have hds : ks.length = ds.length := by have := e3.length; rw [List.length_map] at this; omega
      refine ⟨W1.r l0, p, kvs, a, rfl, rfl, fun z => ra l0 hn2 (by rw [hr2]; exact z), by rw [← hr2]; exact e1, ha, by rw [ia.len]; omega, ?_⟩
      have st := sto_st (u := .dK (mergeK kvs a)) (o := O.ofP (mergeP (ks.zip ds) b)) s2 hn2 (orel_ofP (kv.merge ia) upd_same (pures_mergeP (by rw [List.map_snd_zip (by omega)]; exact e4) hpb))
      have ff := f2.trans s1 s2 le2 (sto_frame (u := .dK (mergeK kvs a)) s2 hn2) (.refl _)
      rw [← hr2]
      exact g W2 .non _ (le1.trans le2) (f1.trans s s1 le1 ff le2) st .non⟩
end
end Pm

set_option Elab.async false
set_option linter.all false
set_option maxRecDepth 100000
set_option maxHeartbeats 600000
/-! Pm25: sorted(d), pop(0), extend; instances that change. -/
namespace Pm
open PySem PySem.Spec PyProof.Rows L2
/-! ### sorted(d), d's keys ints -/
def keysI : List Key → Option (List Int)
  | [] => some []
  | .inl i :: r => (keysI r).map (i :: ·)
  | _ => none
theorem keysI_is : ∀ {ks : List Key} {ns : List Int}, keysI ks = some ns → ks = ns.map Sum.inl
  | [], ns, h => by simp only [keysI, Option.some.injEq] at h; subst h; rfl
  | .inl i :: r, ns, h => by
    simp only [keysI, Option.map_eq_some_iff] at h
    obtain ⟨m, h1, rfl⟩ := h
    rw [keysI_is h1]; rfl
  | .inr _ :: r, ns, h => by simp [keysI] at h
def sortdD : List D → M D
  | [.ref l] => fun S => match S[l]? with
    | some (.dic ks _) => match keysI ks with
      | some ns => if ns.length < 64 then some (.lst ((sortI ns).map .int), S) else none
      | none => none
    | _ => none
  | _ => stuck
theorem rs_sortd {K : PySem.W.Frag} {mg : Str → Option Value} : RSn K mg (fun xs H Q => ∃ (a : Addr) (kvs : List (Key × V)) (ks : List Int), xs = [.ref a] ∧ Rd H a (.dK kvs) ∧ kvs.map (·.1) = ks.map Sum.inl ∧ ks.length < 64 ∧
    ∀ (ys : List Int) (p : Addr), ys.Perm ks → ys.Pairwise (· ≤ ·) → H p = none → Q (.ref p) (upd H p (.lst (ys.map V.int)))) sortdD := fun W S H vs ds z S' Q s i q k => by
  have key : ∃ l ks es ns, ds = [.ref l] ∧ S[l]? = some (.dic ks es) ∧ keysI ks = some ns ∧ ns.length < 64 ∧ z = .lst ((sortI ns).map .int) ∧ S' = S := by
    unfold sortdD at q
    split at q
    · rename_i l
      cases q2 : S[l]? with
      | none => rw [q2] at q; cases q
      | some o => cases o with
        | dic ks es =>
          rw [q2] at q
          simp only at q
          cases q3 : keysI ks with
          | none => rw [q3] at q; cases q
          | some ns =>
            rw [q3] at q
            simp only at q
            split at q
            · rename_i hc; cases q; exact ⟨l, ks, es, ns, rfl, q2, q3, hc, rfl, rfl⟩
            · cases q
        | _ => rw [q2] at q; cases q
    · cases q
  obtain ⟨l, ks, es, ns, rfl, h1, h2, h3, rfl, rfl⟩ := key
  cases i with
  | cons i1 i2 =>
    cases i2
    cases i1 with
    | ref hl =>
      obtain ⟨kvs, e1, e2, e3, e4⟩ := s.ob l _ h1
      refine ⟨_, kvs, ns, rfl, .inl e1, by rw [← e2]; exact keysI_is h2, h3, fun ys p hp hs hn => ?_⟩
      have e : ys = sortI ns := sortI_eq hp hs
      subst e
      exact k.lst s (IsVs.of_ints _) hn
section
variable {X : Cx} {e : Expr} {es : List Expr} {m : Env → M (List D)} {pos p : Pos}
theorem x_sortd (hc : X.calm = true) (hm : X.mg "sorted" = none) (ha : DnA X (e :: es) m) (hg : Gl X "sorted" := by rfl)
    (he : starEach (e :: es) X.env = (false, eval e X.env) :: starEach es X.env := by rfl) (hpl : (backTo pos (starEach es X.env)).any (·.1) = false := by rfl) : Dn X (.Call (.Name "sorted" p) (e :: es) [] pos) (appA sortdD m) :=
  dn_callB (call_sortedDI hc) rs_sortd hg hm (by decide +kernel) ha (by decide) (by decide) he hpl
end
/-! ### an instance that goes on changing -/
def mkrD (c : Str) (n : Nat) (Ci : List D → M D) (ds : List D) : M D := fun S =>
  if ds.length + 1 = n then match Ci (.ref S.length :: ds) (S ++ [.ins c [] []]) with
    | some (.non, S') => some (.ref S.length, S')
    | _ => none
  else none
section
variable {K : PySem.W.Frag} {mg : Str → Option Value}
theorem mkrD_some {c : Str} {n : Nat} {Ci : List D → M D} {ds : List D} {S S' : List O} {d : D} (h : mkrD c n Ci ds S = some (d, S')) : ds.length + 1 = n ∧ Ci (.ref S.length :: ds) (S ++ [.ins c [] []]) = some (.non, S') ∧ d = .ref S.length := by
  unfold mkrD at h
  split at h
  · rename_i hl
    split at h
    · rename_i S2 e
      cases h
      exact ⟨hl, e, rfl⟩
    · cases h
  · cases h
theorem rs_mkr {c : Str} {C : Addr} {n : Nat} {Ci : List D → M D} {W : Wd} {S S' : List O} {H : Hp} {vs : List V} {ds : List D} {d : D} {Q : VK} (hC : mg c = some (.ref C)) (s : StRel K mg W S H) (i : IsVs K mg W vs ds) (h : mkrD c n Ci ds S = some (d, S')) (g : Go K mg W H S' d Q)
    {x dx : Addr} (hx : H x = none) (hdx : H dx = none) (hne : dx ≠ x) : spF K mg n Ci (.ref x :: (vs ++ [])) (upd (upd H dx (.own x)) x (.ins C dx [])) (fun v H2 => v = .non ∧ Q (.ref x) H2) E0 := by
  obtain ⟨hl, hi, rfl⟩ := mkrD_some h
  let H2 := upd (upd H dx (.own x)) x (.ins C dx [])
  have up : ∀ a o, H a = some o → H2 a = some o := fun a o e => by
    show upd _ _ _ a = _
    rw [upd_ne (ne_of_none e hx), upd_ne (ne_of_none e hdx)]; exact e
  have hx2 : H2 x = some (.ins C dx []) := upd_same
  have sH : StRel K mg W S H2 := ⟨s.len, fun a o e => up a o (s.zh a o e), s.zr, s.inj, fun l o e => by
    have q2 : l < W.n := by rw [s.len]; exact (List.getElem?_eq_some_iff.mp e).1
    obtain ⟨u, hu⟩ := s.at q2
    exact (s.ob l o e).mono (.refl _) ((up _ _ hu).trans hu.symm)⟩
  have zx : W.Z x = none := by
    cases z : W.Z x with
    | none => rfl
    | some o => rw [s.zh _ _ z] at hx; cases hx
  obtain ⟨W1, le1, s1, hn, hr, hz⟩ := sH.share (a := x) (o := .ins c [] []) zx (fun l hl => s.ne hx hl) fun W2 _ => ⟨C, dx, [], hx2, hC, rfl, .nil, rfl⟩
  refine ⟨W1, S ++ [.ins c [] []], .ref S.length :: ds, ?_, s1, by rw [List.length_cons]; exact hl, .non, _, hi, fun W2 v H3 le2 f2 s2 i2 => ?_⟩
  · rw [List.append_nil]
    refine .cons ?_ (i.mono le1)
    rw [← s.len, ← hr]
    exact .ref (by rw [hn]; exact Nat.lt_succ_self _)
  · cases i2
    refine ⟨rfl, ?_⟩
    have hlt : W.n < W1.n := by rw [hn]; exact Nat.lt_succ_self _
    have r2 : W2.r W.n = x := (le2.r W.n hlt).trans hr
    refine g W2 _ H3 (le1.trans le2) ⟨fun a o e hr2 => ?_, fun l h1 h2 => ?_, fun a o e => ?_⟩ s2 (by rw [← s.len, ← r2]; exact .ref (Nat.lt_of_lt_of_le hlt le2.n))
    · refine f2.kp a o (up a o e) fun l hl q => ?_
      rw [hn] at hl
      by_cases z : l = W.n
      · rw [z, hr] at q; rw [← q, hx] at e; cases e
      · rw [le1.r l (by omega)] at q; exact hr2 l (by omega) q
    · by_cases z : l = W.n
      · rw [z, r2]; exact hx
      · have := f2.fr l (by omega) h2
        cases y : H (W2.r l) with
        | none => rfl
        | some u =>
          have y2 := up _ u y
          rw [show H2 (W2.r l) = none from this] at y2
          exact nomatch y2
    · rcases f2.fz a o e with z | z
      · rw [hz] at z; exact .inl z
      · refine .inr ?_
        cases y : H a with
        | none => rfl
        | some u =>
          have y2 := up a u y
          rw [show H2 a = none from z] at y2
          exact nomatch y2
end
section
variable {X : Cx} {e : Expr} {es : List Expr} {m : Env → M (List D)} {pos p : Pos} {x : Str} {C f : Addr} {fd : FuncData} {k j : Nat} {ps : List Str} {Ci : List D → M D}
def mkrM (x : Str) (n : Nat) (Ci : List D → M D) (m : Env → M (List D)) : Env → M D := fun env => bnd (m env) (mkrD x n Ci)
theorem x_mkr {n : Nat} (F : MkD X.prog X.w X.K X.mg X.base x C f fd k ps Ci) (gd : X.A.guards = some []) (hr : Room j X.A) (hk : k + 1 ≤ j) (ha : DnA X (e :: es) m) (hn : ps.length = n := by rfl) (hg : Gl X x := by rfl) (hdb : (x == ("__debug__" : Str)) = false := by decide)
    (h1 : starEach (e :: es) X.env = (false, eval e X.env) :: starEach es X.env := by rfl) (h2 : (backTo pos (starEach es X.env)).any (·.1) = false := by rfl) : Dn X (.Call (.Name x p) (e :: es) [] pos) (mkrM x n Ci m) := by
  subst hn
  refine ⟨⟨fun pins s σ H Q I ⟨W, env, S, er, sr, d, S', h, g⟩ => ?_⟩⟩
  obtain ⟨ds, S1, hm, h⟩ := bnd_some h
  refine wpAny_Call_Name_kw (ld_glob I hg F.g ?_ hdb)
  refine PySem.W.callWith_K (h₀ := X.base) I.ok.mod.kin F.ma.kp (thn (ha.pa.run pos pins s σ H (fun vs H1 => ∀ a dx, H1 a = none → H1 dx = none → dx ≠ a → spF X.K X.mg ps.length Ci (.ref a :: (vs ++ [])) (upd (upd H1 dx (.own a)) a (.ins C dx [])) (fun v H2 => v = .non ∧ Q (.ref a) H2) E0) I
    ⟨W, env, S, er, sr, ds, S1, hm, fun W1 vs H1 le1 f1 s1 i1 a dx n1 n2 n3 => rs_mkr F.g s1 i1 h (g.step sr le1 f1 s1) n1 n2 n3⟩) fun us s1 ⟨vs, H1, I1, rv, sp⟩ => ⟨I1.kIn, ?_⟩) h1 h2
  have hq := sp (s1.heap.objs.size + 1) s1.heap.objs.size (I1.hok.fresh (Nat.le_succ _)) (I1.hok.fresh (Nat.le_refl _)) (Nat.ne_of_lt (Nat.lt_succ_self _))
  have I2 := Inv.made (C := C) I1
  have r2 : Vals (V.ref (s1.heap.objs.size + 1) :: (vs ++ [])) (Value.ref (s1.heap.objs.size + 1) :: (us ++ [])) := .cons rfl (rv.append .nil)
  have hl : (Value.ref (s1.heap.objs.size + 1) :: us ++ []).length = ps.length := (r2.length.symm.trans (F.ok.len _ _ _ _ hq))
  have bb := F.bn _ (Value.ref (s1.heap.objs.size + 1) :: us) I2.kIn hl
  rw [List.cons_append] at bb
  refine wpAny_call (make_map (f := f) I1.kIn F.ma.makes F.ma.init (beq_iff_eq.mp F.ma.fn) (codeAny_mono (F.ok.run _ X.stack _ _ ⟨Value.ref (s1.heap.objs.size + 1) :: us, []⟩ (Value.ref (s1.heap.objs.size + 1) :: (us ++ [])) _ _ E0 gd ((hr.mono hk).make C us [])
    (I2.env0.make C us []) bb r2 hq) fun r s2 q => ?_))
  match r, q with
  | .error _, q => exact (show False from q).elim
  | .ok (.ret _), q =>
    obtain ⟨v, H3, I3, rv3, ev, q3⟩ := I2.after q
    subst ev
    exact ⟨rv3, V.ref (s1.heap.objs.size + 1), H3, I3, rfl, q3⟩
  | .ok .next, q => exact (show False from q).elim
  | .ok .brk, q => exact (show False from q).elim
  | .ok .cont, q => exact (show False from q).elim
end
/-! ### own lists: extend, pop(0) -/
section
variable {X : Cx}
def extM (i : Nat) (me : Env → M (List D)) : MS := fun env => bnd (evL me env) fun d => match env[i]? with
  | some (some (.own ds)) => if ds.length + d.length ≤ sizeLine then ret (.nx (env.set i (some (.own (ds ++ d))))) else stuck
  | _ => stuck
theorem ds_ext {x : Str} {e : Expr} {me : Env → M (List D)} {i : Nat} {p apos cpos pos : Pos} (he : DnL X e me) (hN : X.N[i]? = some x := by rfl) (hv : Vis X.env.scope x := by first | exact Or.inl rfl | exact Or.inr (Or.inl rfl) | exact Or.inr (Or.inr rfl)) (hd : (x == ("__debug__" : Str)) = false := by decide)
    (hcd : (x == ("__classdict__" : Str)) = false := by decide) (hbase : attributeBase (.Name x p) "extend" X.env (eval (.Name x p) X.env) = eval (.Name x p) X.env := by rfl)
    (hfew : ((backTo cpos (starEach (e :: []) X.env)).all (fun x => !x.1) && (backToKw cpos (keywordEach [] X.env)).all (fun x => x.1.isSome) && decide ((e :: []).length + ([] : List Keyword).length + (if ([] : List Keyword).isEmpty then 0 else 1) < 30)) = true := by rfl)
    (hline : (apos.endLine == cpos.line) = true := by rfl) (hs : starEach (e :: []) X.env = (false, eval e X.env) :: starEach [] X.env := by rfl) (hplain : (backTo cpos (starEach [] X.env)).any (·.1) = false := by rfl)
    (hsw : swapsWith (.Call (.Attribute (.Name x p) "extend" apos) [e] [] cpos) none pos.line X.env = pure false := by rfl) : Ds X (.Expr (.Call (.Attribute (.Name x p) "extend" apos) [e] [] cpos) pos) (extM i me) :=
  ⟨PS.mono (ps_expr (pe_bm PySem.F.plainAttrs_list PySem.F.slot_list_extend PySem.F.type_list_extend mt_extend (pe_var hN hv hd hcd) (pa_cons he.pe pa_nil hs) hbase hfew hline hs hplain) hsw) fun D σ H ⟨W, env, S, r, s, fl, S', h, g⟩ => by
    obtain ⟨d, S1, h1, h⟩ := bnd_some h
    cases q : env[i]? with
    | none => rw [q] at h; cases h
    | some o => cases o with
      | none => rw [q] at h; cases h
      | some sl => cases sl with
        | val _ => rw [q] at h; cases h
        | ownd _ _ => rw [q] at h; cases h
        | own ds =>
          rw [q] at h
          simp only at h
          split at h
          · rename_i hz
            cases h
            obtain ⟨v, e1, a, vs, rfl, h4, h5, h6, h7⟩ := r.ats i _ q
            refine ⟨_, e1, .inl ⟨rfl, _, .inl (.inl h4)⟩, evL_run r s h1 fun W1 b ws H1 le f r1 s1 hb ib zb rb nb => ?_⟩
            obtain ⟨v', e1', a', vs', rfl, k4, k5, k6, k7⟩ := r1.ats i _ q
            rw [e1] at e1'; cases e1'
            refine ⟨a, b, vs', ws, rfl, rfl, k4, hb, by rw [k5.length, ib.length]; exact hz, ?_⟩
            have how : Ow env σ a := ⟨i, _, q, rfl, e1⟩
            refine g W1 σ _ le ((FrameS.of f le s1 fun _ h => h).trans le (own_frame how fun b hb => hb.write q rfl) (.refl _)) (r1.write q rfl e1 ⟨a, _, rfl, upd_same, k5.append ib, k6, k7⟩) (own_st s1 k6 k7)
          · cases h⟩
def pop0M (j i : Nat) : MS := fun env => match env[i]? with
  | some (some (.own (d :: ds))) => ret (.nx ((env.set i (some (.own ds))).set j (some (.val d))))
  | _ => stuck
theorem ds_pop0 {x y : Str} {i j : Nat} {p p' pz apos cpos pos : Pos} {kz} (hNd : X.N.Nodup) (hx : Loc X.env.scope x) (hj : X.N[j]? = some x := by rfl) (hN : X.N[i]? = some y := by rfl) (hv : Vis X.env.scope y := by first | exact Or.inl rfl | exact Or.inr (Or.inl rfl) | exact Or.inr (Or.inr rfl)) (hd : (y == ("__debug__" : Str)) = false := by decide)
    (hcd : (y == ("__classdict__" : Str)) = false := by decide) (hbase : attributeBase (.Name y p) "pop" X.env (eval (.Name y p) X.env) = eval (.Name y p) X.env := by rfl)
    (hfew : ((backTo cpos (starEach [.Constant (.int 0) kz pz] X.env)).all (fun x => !x.1) && (backToKw cpos (keywordEach [] X.env)).all (fun x => x.1.isSome) && decide ([Expr.Constant (.int 0) kz pz].length + ([] : List Keyword).length + (if ([] : List Keyword).isEmpty then 0 else 1) < 30)) = true := by rfl)
    (hline : (apos.endLine == cpos.line) = true := by rfl) (hs : starEach [.Constant (.int 0) kz pz] X.env = (false, eval (.Constant (.int 0) kz pz) X.env) :: starEach [] X.env := by rfl) (hplain : (backTo cpos (starEach [] X.env)).any (·.1) = false := by rfl)
    (hsw : swapsWith (.Call (.Attribute (.Name y p) "pop" apos) [.Constant (.int 0) kz pz] [] cpos) (some (.Name x p')) pos.line X.env = pure false := by rfl)
    (hf : X.fn x = true ∨ X.env.scope.names.lookup x = some .local := by first | exact .inl rfl | exact .inr rfl | assumption) :
    Ds X (.Assign [.Name x p'] (.Call (.Attribute (.Name y p) "pop" apos) [.Constant (.int 0) kz pz] [] cpos) pos) (pop0M j i) :=
  ⟨PS.mono (ps_set hNd hj hx (pe_bm PySem.F.plainAttrs_list PySem.F.slot_list_pop PySem.F.type_list_pop mt_popAt (pe_var hN hv hd hcd) (pa_cons pe_int pa_nil hs) hbase hfew hline hs hplain) hsw hf) fun D σ H ⟨W, env, S, r, s, fl, S', h, g⟩ => by
    cases q : env[i]? with
    | none => simp [pop0M, q, stuck] at h
    | some o => cases o with
      | none => simp [pop0M, q, stuck] at h
      | some sl => cases sl with
        | val _ => simp [pop0M, q, stuck] at h
        | ownd _ _ => simp [pop0M, q, stuck] at h
        | own es =>
          cases es with
          | nil => simp [pop0M, q, stuck] at h
          | cons d ds =>
            simp only [pop0M, q] at h
            cases h
            obtain ⟨v, e1, a, vs, rfl, h4, h5, h6, h7⟩ := r.ats i _ q
            cases h5 with
            | @cons v0 vs _ _ i1 i2 =>
              refine ⟨_, e1, .inl ⟨rfl, _, .inl (.inl h4)⟩, ⟨a, v0 :: vs, 0, 0, v0, rfl, rfl, h4, by omega, by omega, by simp [seqIndex?], rfl, ?_⟩⟩
              have how : Ow env σ a := ⟨i, _, q, rfl, e1⟩
              have r2 := r.write (u := .lst vs) q rfl e1 (s1 := .own ds) ⟨a, vs, rfl, upd_same, i2, h6, h7⟩
              have s2 := own_st (u := .lst vs) s h6 h7
              exact g W _ _ (.refl _) ((own_frame how fun b hb => hb.write q rfl).trans (.refl _) (.of (.refl _ _) (.refl _) s2 fun a h => h.setv) (.refl _)) (r2.setv i1) s2⟩
end
end Pm

set_option Elab.async false
set_option linter.all false
set_option maxRecDepth 100000
set_option maxHeartbeats 600000
/-! Pm26: tuple(d.values()), whatever d's keys are. -/
namespace Pm
open PySem PySem.Spec PyProof.Rows L2 RT
open PySem.W (KdlSrc kdl_extend)
section
variable {prog : Program} {w : World} {A : Around} {E : Value → Shared → Prop} {s : Shared}
/-- the values of a dict, whatever its keys -/
theorem vals_src {prog : Program} {w : World} {r d : Addr} {es : Array DictEntry} {ep : Nat} : KdlSrc prog w "dict_values" r d es.size (fun i v => ∃ hi : i < es.size, v = es[i].val) (fun h => h.IsValuesView r d ∧ h.DictRaw d es ep) where
  type := fun _ hm => Heap.IsValuesView.typeIs hm.1
  there := fun _ hm => ⟨let ⟨_, ho, _⟩ := hm.1; Heap.lt_size ho, let ⟨_, ho, _⟩ := hm.2; Heap.lt_size ho⟩
  keep := fun _ _ hm hk => ⟨let ⟨o, ho, x⟩ := hm.1; ⟨o, hk r (.inl rfl) o ho, x⟩, hm.2.at fun o e => hk d (.inr rfl) o e⟩
  notList := by decide
  notTuple := by decide
  hint := fun _ _ _ _ hm hq => PySem.W.kdl_hint_values (Heap.IsValuesView.typeIs hm.1) hq
  iter := fun _ _ hh hm => ⟨_, _, (fun _ _ hq => wpAny_pyIter_values_raw hm.1 hm.2 hq), Walks.rawValues hh _ d (let ⟨_, ho, _⟩ := hm.2; Nat.ne_of_lt (Heap.lt_size ho)) es ep, ⟨⟨_, Heap.get?_push_size _ rfl, rfl, rfl⟩, hm.2.at fun o e => Heap.get?_push_of_some _ e⟩⟩
theorem collect_src {T : String} {r d : Addr} {n : Nat} {P : Nat → Value → Prop} {OK : Heap → Prop} {Q : List Value → Shared → Prop} (K : KdlSrc prog w T r d n P OK) (hh : A.handled = none) (hok : OK s.heap) (hn : n ≤ sizeLine)
    (hQ : ∀ (h' : Heap) (tk : Nat) (acc : Array Value), (∀ b o, s.heap.get? b = some o → h'.get? b = some o) → ItemsOf P acc n → Q acc.toList { s with heap := h', toks := tk }) :
    wpAny (model prog w) A (collect (.ref r)) Q E s := by
  have hlt := K.there _ hok
  unfold collect
  refine wpAny_bind (wpAny_runValue (codeAny_builtin F.entry_proto_collect ?_))
  rw [Around.under_plainId F.plain_proto_collect _]
  show wpAny _ A.in1 (newList [] >>= fun l' => again (.builtin "list.__iadd__" ⟨[l', .ref r], []⟩)) _ _ s
  refine wpAny_bind (wpAny_newObj_type ?_)
  refine wpAny_pure ⟨plainId_quiet F.plain_list_iadd _, codeAny_builtin F.entry_list_iadd ?_⟩
  rw [Around.under_plainId F.plain_list_iadd _]
  have hS₁ : (s.heap.push { cls := .type "list", data := .seq ([] : List Value).toArray }).get? s.heap.objs.size = some { cls := .type "list", data := .seq ([] : List Value).toArray } := Heap.get?_push_size _ rfl
  show wpAny _ A.in1 (Builtin.List.listExtendWith (.ref s.heap.objs.size) (.ref r) (.ref s.heap.objs.size)) _ _ _
  refine kdl_extend (R := fun r s' => match r with
    | .ok (.ret v) => wpAny (model prog w) A (match v with | .ref a => do { let o ← load a; match o.data with | .seq xs _ => pure xs.toList | _ => unsupported "internal:collect" } | _ => unsupported "internal:collect") Q E s'
    | .ok _ => False
    | .error e => E e s') (A := A) (s := { s with heap := s.heap.push { cls := .type "list", data := .seq ([] : List Value).toArray } }) K hh (K.keep _ _ hok fun b _ o e => Heap.get?_push_of_some _ e) _ (Nat.ne_of_gt hlt.1) (Nat.ne_of_gt hlt.2) _ _ hS₁ (fun h' tk acc' c' hk hS' hacc => ?_) hn
  show wpAny _ A (load s.heap.objs.size >>= _) _ _ _
  refine wpAny_bind (wpAny_load hS' ?_)
  refine wpAny_pure ?_
  exact hQ h' tk acc' (fun b o e => hk b o (Nat.ne_of_lt (Heap.lt_size e)) (Heap.get?_push_of_some _ e)) hacc
theorem code_tuple_new_src {T : String} {r d : Addr} {n : Nat} {P : Nat → Value → Prop} {OK : Heap → Prop} {Q₁ : Value → Shared → Prop} (K : KdlSrc prog w T r d n P OK) (hh : A.handled = none) (hok : OK s.heap) (hn : n ≤ sizeLine)
    (h : ∀ (h' : Heap) (tk : Nat) (acc : Array Value), (∀ b o, s.heap.get? b = some o → h'.get? b = some o) → ItemsOf P acc n →
      Q₁ (.ref h'.objs.size) { s with heap := h'.push { cls := .type "tuple", data := .seq acc }, toks := tk }) :
    codeAny (model prog w) A (.call (.builtin "tuple.__new__") ⟨[.type "tuple", .ref r], []⟩) (wants Q₁ E) s := by
  refine codeAny_of_tree ?_
  show wpAny _ A.in1 (do checkBuiltinCall "tuple.__new__" ⟨[.type "tuple", .ref r], []⟩; again (.builtin "tuple.__new__" ⟨[.type "tuple", .ref r], []⟩)) _ _ s
  refine wpAny_bind (wpAny_of_eq (F.newCall_tuple_1 _) (wpAny_pure ⟨plainId_quiet F.plain_tuple_new _, codeAny_builtin F.entry_tuple_new ?_⟩))
  rw [Around.under_plainId F.plain_tuple_new _]
  have hsub := sub_tuple_self
  have hinit := init_tuple_lookup
  have hmh := madeHere_tuple
  have hTI : s.TypeIs (.ref r) T := K.type _ hok
  have hnt := K.notTuple
  have hh1 : A.in1.handled = none := hh
  wp_walk using wpAny_typeOf hTI, collect_src (A := A.in1) K hh1 hok hn
  intro h' tk acc hk hacc
  show wpAny _ _ (Builtin.Tuple.tupleExact acc.toList.toArray >>= fun v => PySem.ret v) _ _ _
  unfold Builtin.Tuple.tupleExact
  refine wpAny_bind (wpAny_newObj_type ?_ (by show acc.toList.toArray.size ≤ sizeLine; simp only [Array.toArray_toList]; rw [hacc.1]; exact hn))
  refine wpAny_pure ?_
  have e : acc.toList.toArray = acc := by simp
  rw [e]
  exact h h' tk acc hk hacc
theorem call_tuple_src {T : String} {r d : Addr} {n : Nat} {P : Nat → Value → Prop} {OK : Heap → Prop} {Q : Value → Shared → Prop} (K : KdlSrc prog w T r d n P OK) (hh : A.handled = none) (hok : OK s.heap) (hn : n ≤ sizeLine)
    (hQ : ∀ (h' : Heap) (tk : Nat) (acc : Array Value), (∀ b o, s.heap.get? b = some o → h'.get? b = some o) → ItemsOf P acc n →
      Q (.ref h'.objs.size) { s with heap := h'.push { cls := .type "tuple", data := .seq acc }, toks := tk }) :
    wpAny (model prog w) A (call (.type "tuple") [.ref r]) Q E s := by
  refine callType_codes (Q₁ := fun obj s₁ => s₁.TypeIs obj "tuple" ∧ Q obj s₁) F.called_tuple (F.typeCall_tuple_1 _) F.entry_object_init
    (code_tuple_new_src (A := A.in1) K hh hok hn fun h' tk acc hk hacc => ⟨⟨_, Heap.get?_push_size _ rfl, rfl⟩, hQ h' tk acc hk hacc⟩) fun obj s₁ h₁ => ?_
  exact ⟨h₁.1, F.args_object_init_2 obj _, object_init_meets F.called_tuple.init.lookup F.called_tuple.made (by decide) prog w A.in1 _ s₁ ⟨h₁.1, rfl, h₁.2⟩⟩
end
end Pm

set_option Elab.async false
set_option linter.all false
set_option maxRecDepth 100000
set_option maxHeartbeats 600000
/-! Pm27: dicts keyed by nested tuples of ints: asked with a default, stored into; tuple(d.values()). -/
namespace Pm
open PySem PySem.Spec PyProof.Rows L2
/-! ### keys -/
section
variable {X : Cx} {pins : List (Addr × Obj)} {s : Shared} {σ : L2.St} {H : Hp} {W : Wd} {S : List O}
mutual
theorem IsV.nested (I : Inv X pins σ H s) (st : StRel X.K X.mg W S H) : ∀ {v : V} {d : Pm.D} {k : NestedKey} {u : Value}, IsV X.K X.mg W v d → Pm.D.nk d = some k → RelV v u → NestedIs s.heap k u
  | _, .int i, k, u, .int _, h, r => by
    simp only [Pm.D.nk, Option.some.injEq] at h
    subst h
    obtain ⟨t, rfl⟩ := r
    exact .int _ _
  | _, .tup ds, k, u, .tup ha ia, h, r => by
    simp only [Pm.D.nk, Option.map_eq_some_iff] at h
    obtain ⟨ks, h1, rfl⟩ := h
    obtain rfl : u = _ := r
    obtain ⟨its, rv, ⟨o, ho, hc, n, hd⟩, _⟩ := I.tuple (TupX.up st ha)
    exact .tup ho hc hd (IsVs.nested I st ia h1 rv)
  | _, .non, _, _, _, h, _ => by simp [Pm.D.nk] at h
  | _, .bl _, _, _, _, h, _ => by simp [Pm.D.nk] at h
  | _, .str _, _, _, _, h, _ => by simp [Pm.D.nk] at h
  | _, .tpl _, _, _, _, h, _ => by simp [Pm.D.nk] at h
  | _, .lst _, _, _, _, h, _ => by simp [Pm.D.nk] at h
  | _, .scr _, _, _, _, h, _ => by simp [Pm.D.nk] at h
  | _, .dct _ _, _, _, _, h, _ => by simp [Pm.D.nk] at h
  | _, .obj _ _ _, _, _, _, h, _ => by simp [Pm.D.nk] at h
  | _, .ref _, _, _, _, h, _ => by simp [Pm.D.nk] at h
  | _, .fn _ _ _ _ _, _, _, _, h, _ => by simp [Pm.D.nk] at h
theorem IsVs.nested (I : Inv X pins σ H s) (st : StRel X.K X.mg W S H) : ∀ {vs : List V} {ds : List Pm.D} {ks : List NestedKey} {us : List Value}, IsVs X.K X.mg W vs ds → Pm.D.nks ds = some ks → Vals vs us → NestedAll s.heap ks us
  | _, _, ks, us, .nil, h, r => by
    simp only [Pm.D.nks, Option.some.injEq] at h
    subst h
    cases r
    exact .nil
  | _, d :: ds, ks, us, .cons i j, h, r => by
    simp only [Pm.D.nks] at h
    split at h
    · rename_i k ks' h1 h2
      cases h
      cases r with
      | cons r1 r2 => exact .cons (IsV.nested I st i h1 r1) (IsVs.nested I st j h2 r2)
    · cases h
end
mutual
theorem nk_hash : ∀ {d : Pm.D} {k : NestedKey} (w w' : World), Pm.D.nk d = some k → k.hash w = k.hash w'
  | .int i, k, w, w', h => by simp only [Pm.D.nk, Option.some.injEq] at h; subst h; rfl
  | .tup ds, k, w, w', h => by
    simp only [Pm.D.nk, Option.map_eq_some_iff] at h
    obtain ⟨ks, h1, rfl⟩ := h
    simp only [NestedKey.hash]
    rw [nks_hash w w' h1]
  | .non, _, _, _, h => by simp [Pm.D.nk] at h
  | .bl _, _, _, _, h => by simp [Pm.D.nk] at h
  | .str _, _, _, _, h => by simp [Pm.D.nk] at h
  | .tpl _, _, _, _, h => by simp [Pm.D.nk] at h
  | .lst _, _, _, _, h => by simp [Pm.D.nk] at h
  | .scr _, _, _, _, h => by simp [Pm.D.nk] at h
  | .dct _ _, _, _, _, h => by simp [Pm.D.nk] at h
  | .obj _ _ _, _, _, _, h => by simp [Pm.D.nk] at h
  | .ref _, _, _, _, h => by simp [Pm.D.nk] at h
  | .fn _ _ _ _ _, _, _, _, h => by simp [Pm.D.nk] at h
theorem nks_hash : ∀ {ds : List Pm.D} {ks : List NestedKey} (w w' : World), Pm.D.nks ds = some ks → NestedKey.hashes w ks = NestedKey.hashes w' ks
  | [], ks, w, w', h => by simp only [Pm.D.nks, Option.some.injEq] at h; subst h; rfl
  | d :: ds, ks, w, w', h => by
    simp only [Pm.D.nks] at h
    split at h
    · rename_i k ks' h1 h2
      cases h
      simp only [NestedKey.hashes]
      rw [nk_hash w w' h1, nks_hash w w' h2]
    · cases h
end
end
/-! ### what such a dict holds -/
def lookT (b : List (D × D)) (k : NestedKey) : Option D := (b.find? fun q => decide (Pm.D.nk q.1 = some k)).map (·.2)
def putT (b : List (D × D)) (k : NestedKey) (d e : D) : List (D × D) := if (lookT b k).isSome then b.map (fun q => if Pm.D.nk q.1 = some k then (q.1, e) else q) else b ++ [(d, e)]
section
variable {K : PySem.W.Frag} {mg : Str → Option Value} {W : Wd} {xs : List (NestedKey × Addr × Value)} {b : List (D × D)} {k : NestedKey} {d e : D}
theorem TicR.len (r : TicR K mg W xs b) : xs.length = b.length := by
  induction r with
  | nil => rfl
  | cons _ _ _ _ _ _ _ _ ih => simp only [List.length_cons, ih]
theorem TicR.look (r : TicR K mg W xs b) : match lookT b k with
    | some e => ∃ u v, atKey xs k = some u ∧ RelV v u.2 ∧ IsV K mg W v e
    | none => atKey xs k = none := by
  induction r with
  | nil => rfl
  | @cons k' a u v d e xs b h1 h2 h3 h4 h5 h6 h7 _ ih =>
    unfold lookT atKey at ih ⊢
    rw [List.find?_cons, List.find?_cons]
    by_cases q : k' = k
    · subst q
      rw [h1, decide_eq_true rfl, decide_eq_true rfl]
      exact ⟨_, v, rfl, h5, h6⟩
    · rw [h1, decide_eq_false (by simpa using q), decide_eq_false q]
      exact ih
theorem TicR.look_is (r : TicR K mg W xs b) : (atKey xs k).isSome = (lookT b k).isSome := by
  have := r.look (k := k)
  split at this
  · rename_i h; obtain ⟨u, v, q, _⟩ := this; rw [q, h]; rfl
  · rename_i h; rw [this, h]; rfl
theorem TicR.put {a : Addr} {u : Value} {v : V} (r : TicR K mg W xs b) (h1 : Pm.D.nk d = some k) (h2 : k.depth ≤ 8) (h3 : IsV K mg W (.ref a) d) (h4 : d.pure = true) (h5 : RelV v u) (h6 : IsV K mg W v e) (h7 : e.pure = true) :
    TicR K mg W (storedH xs k a u) (putT b k d e) := by
  unfold storedH putT
  rw [r.look_is]
  split
  · rename_i q
    clear q
    induction r with
    | nil => exact .nil
    | @cons k' a' u' v' d' e' xs b g1 g2 g3 g4 g5 g6 g7 _ ih =>
      rw [List.map_cons, List.map_cons]
      unfold putAt at ih ⊢
      by_cases q : k' = k
      · subst q
        rw [if_pos rfl, if_pos (by exact g1)]
        exact .cons g1 g2 g3 g4 h5 h6 h7 ih
      · rw [if_neg q, if_neg (by show ¬ Pm.D.nk d' = some k; rw [g1]; simpa using q)]
        exact .cons g1 g2 g3 g4 g5 g6 g7 ih
  · rename_i q
    clear q
    induction r with
    | nil => exact .cons h1 h2 h3 h4 h5 h6 h7 .nil
    | cons g1 g2 g3 g4 g5 g6 g7 _ ih => exact .cons g1 g2 g3 g4 g5 g6 g7 ih
theorem TicR.vals (r : TicR K mg W xs b) : ∃ vs, Vals vs (xs.map (·.2.2)) ∧ IsVs K mg W vs (b.map (·.2)) := by
  induction r with
  | nil => exact ⟨[], .nil, .nil⟩
  | cons _ _ _ _ h5 h6 _ _ ih =>
    obtain ⟨vs, r1, r2⟩ := ih
    exact ⟨_, .cons h5 r1, .cons h6 r2⟩
end
theorem TicR.keys {X : Cx} {pins : List (Addr × Obj)} {s : Shared} {σ : L2.St} {H : Hp} {W : Wd} {S : List O} {xs : List (NestedKey × Addr × Value)} {b : List (D × D)} (r : TicR X.K X.mg W xs b) (I : Inv X pins σ H s) (st : StRel X.K X.mg W S H) : ∀ x ∈ xs, (nestedKind X.prog X.w).is s.heap x.1 x.2.1 := by
  induction r with
  | nil => intro x hx; cases hx
  | cons g1 g2 g3 g4 g5 g6 g7 _ ih =>
    intro x hx
    rcases List.mem_cons.mp hx with rfl | hx
    · exact ⟨g3.nested I st g1 rfl, g2⟩
    · exact ih x hx
theorem TicR.nkOf {K : PySem.W.Frag} {mg : Str → Option Value} {W : Wd} {xs : List (NestedKey × Addr × Value)} {b : List (D × D)} (r : TicR K mg W xs b) : ∀ x ∈ xs, ∃ d, Pm.D.nk d = some x.1 := by
  induction r with
  | nil => intro x hx; cases hx
  | cons g1 _ _ _ _ _ _ _ ih =>
    intro x hx
    rcases List.mem_cons.mp hx with rfl | hx
    · exact ⟨_, g1⟩
    · exact ih x hx
/-- the dict at a holds b -/
def TicAt (K : PySem.W.Frag) (mg : Str → Option Value) (W : Wd) (H : Hp) (a : Addr) (b : List (D × D)) : Prop := ORel K mg W H a (.tic b) ∨ b = [] ∧ H a = some (.dK [])
section
variable {X : Cx} {pins : List (Addr × Obj)} {s : Shared} {σ : L2.St} {H : Hp} {W : Wd} {S : List O} {a : Addr} {b : List (D × D)}
theorem TicAt.is (t : TicAt X.K X.mg W H a b) (I : Inv X pins σ H s) (st : StRel X.K X.mg W S H) : ∃ xs, s.heap.DictOfH (nestedKind X.prog X.w) a xs ∧ TicR X.K X.mg W xs b ∧ (a == sysModules) = false ∧ xs.length ≤ sizeLine ∧ Mut (H a) := by
  rcases t with ⟨xs, h1, h2, h3, h4, h5⟩ | ⟨rfl, h⟩
  · obtain ⟨⟨o, es, ep, e1, e2, e3, e4⟩, _⟩ := I.hok a _ h1
    exact ⟨xs, ⟨o, es, ep, e1, e2, e3, e4 X.w, h4.keys I st, h5⟩, h4, h2, h3, by rw [h1]; exact True.intro⟩
  · obtain ⟨_, hd, vs, kv, ⟨o, es, ep, e1, e2, e3, e4, e5, e6⟩⟩ := dk_of I.hok h
    have hv : vs = [] := by
      have := kv.length
      exact List.eq_nil_of_length_eq_zero (by simpa using this.symm)
    subst hv
    have he : es.toList = [] := List.eq_nil_of_length_eq_zero (by have := e5.length; simpa using this)
    exact ⟨[], ⟨o, es, ep, e1, e2, e3, he, (fun _ hx => by cases hx), List.nodup_nil⟩, .nil, hd, Nat.zero_le _, by rw [h]; exact True.intro⟩
/-- the state's object at l as such a dict -/
def ticD (o : D) : M (List (D × D)) := match o with
  | .ref l => fun S => match S[l]? with
    | some (.tic b) => some (b, S)
    | some (.dic [] []) => some ([], S)
    | _ => none
  | _ => stuck
theorem ticD_some {o : D} {b : List (D × D)} {S S' : List O} (h : ticD o S = some (b, S')) : ∃ l, o = .ref l ∧ S' = S ∧ (S[l]? = some (.tic b) ∨ b = [] ∧ S[l]? = some (.dic [] [])) := by
  cases o with
  | ref l =>
    simp only [ticD] at h
    split at h
    · rename_i q; cases h; exact ⟨l, rfl, rfl, .inl q⟩
    · rename_i q; cases h; exact ⟨l, rfl, rfl, .inr ⟨rfl, q⟩⟩
    · cases h
  | _ => simp [ticD, stuck] at h
theorem ticAt {K : PySem.W.Frag} {mg : Str → Option Value} {l : Nat} (st : StRel K mg W S H) (h : S[l]? = some (.tic b) ∨ b = [] ∧ S[l]? = some (.dic [] [])) : TicAt K mg W H (W.r l) b := by
  rcases h with h | ⟨rfl, h⟩
  · exact .inl (st.ob l _ h)
  · obtain ⟨kvs, h1, h2, _⟩ := st.ob l _ h
    have : kvs = [] := by cases kvs with | nil => rfl | cons _ _ => simp at h2
    subst this
    exact .inr ⟨rfl, h1⟩
theorem TicAt.at (t : TicAt X.K X.mg W H a b) (I : Inv X pins σ H s) (st : StRel X.K X.mg W S H) : s.TypeIs (.ref a) "dict" ∧ ∀ c, Value.ref a = .ref c → ∃ ob, s.heap.get? c = some ob ∧ ob.dict = none := by
  obtain ⟨xs, ⟨o, es, ep, e1, e2, _⟩, _⟩ := t.is I st
  exact ⟨⟨o, e1, e2.1⟩, fun c z => by cases z; exact ⟨o, e1, e2.2.1⟩⟩
end
theorem Dn.runs {X : Cx} {e : Expr} {m : Env → M D} {pins : List (Addr × Obj)} {s : Shared} {σ : L2.St} {H : Hp} {W : Wd} {S S1 : List O} {env : Env} {d : D} {Q : Value → Shared → Prop} (h : Dn X e m) (I : Inv X pins σ H s) (er : ERel X.K X.mg W env σ) (st : StRel X.K X.mg W S H) (hm : m env S = some (d, S1))
    (k : ∀ u s1 v W1 H1, W.le W1 → Frame W W1 H H1 → StRel X.K X.mg W1 S1 H1 → IsV X.K X.mg W1 v d → Inv X pins σ H1 s1 → RelV v u → Q u s1) : wpAny (model X.prog X.w) X.A (eval e X.env) Q X.xe s :=
  thn (h.pe.run pins s σ H (fun v H1 => ∃ W1, W.le W1 ∧ Frame W W1 H H1 ∧ StRel X.K X.mg W1 S1 H1 ∧ IsV X.K X.mg W1 v d) I ⟨W, env, S, er, st, d, S1, hm, fun W1 v H1 le f s1 i => ⟨W1, le, f, s1, i⟩⟩)
    fun u s1 ⟨v, H1, I1, r, W1, le, f, st1, i⟩ => k u s1 v W1 H1 le f st1 i I1 r
/-! ### d.get(k, x) -/
def nkD (d : D) : M NestedKey := match Pm.D.nk d with
  | some k => if k.depth ≤ 8 then ret k else stuck
  | none => stuck
theorem nkD_some {d : D} {k : NestedKey} {S S' : List O} (h : nkD d S = some (k, S')) : Pm.D.nk d = some k ∧ k.depth ≤ 8 ∧ S' = S := by
  unfold nkD at h
  cases q : Pm.D.nk d with
  | none => rw [q] at h; cases h
  | some k2 =>
    rw [q] at h
    simp only at h
    by_cases q2 : k2.depth ≤ 8
    · rw [if_pos q2] at h; cases h; exact ⟨rfl, q2, rfl⟩
    · rw [if_neg q2] at h; cases h
def tgetE (b : List (D × D)) (kd x : D) (k : NestedKey) : M D := match kd with
  | .tup _ => ret ((lookT b k).getD x)
  | _ => stuck
theorem tgetE_some {b : List (D × D)} {kd x d : D} {k : NestedKey} {S S' : List O} (h : tgetE b kd x k S = some (d, S')) : (∃ ds, kd = .tup ds) ∧ d = (lookT b k).getD x ∧ S' = S := by
  cases kd <;> simp only [tgetE, stuck, ret, reduceCtorEq, Option.some.injEq, Prod.mk.injEq] at h
  exact ⟨⟨_, rfl⟩, h.1.symm, h.2.symm⟩
def tgetM (mo me mf : Env → M D) : Env → M D := fun env => bnd (mo env) fun o => bnd (ticD o) fun _ => bnd (me env) fun kd => bnd (mf env) fun x => bnd (ticD o) fun b => bnd (nkD kd) fun k => tgetE b kd x k
section
variable {X : Cx} {o e f i : Expr} {mo me mf mi : Env → M D} {apos cpos p pos : Pos} {j : Nat}
theorem tup_ref {K : PySem.W.Frag} {mg : Str → Option Value} {W : Wd} {v : V} {ds : List D} (i : IsV K mg W v (.tup ds)) : ∃ a, v = .ref a := by
  cases i with
  | tup => exact ⟨_, rfl⟩
theorem ref_at {K : PySem.W.Frag} {mg : Str → Option Value} {W : Wd} {v : V} {l : Nat} (i : IsV K mg W v (.ref l)) : v = .ref (W.r l) ∧ l < W.n := by
  cases i with
  | ref h => exact ⟨rfl, h⟩
theorem x_tget (hr : Room j X.A) (ho : Dn X o mo) (he : Dn X e me) (hf : Dn X f mf) (m : M2 X o "get" apos e f cpos) : Dn X (.Call (.Attribute o "get" apos) [e, f] [] cpos) (tgetM mo me mf) := by
  refine ⟨⟨fun pins s σ H Q I h => ?_⟩⟩
  obtain ⟨W, env, S, er, st, d, S', h0, g⟩ := h
  obtain ⟨ov, S1, h1, q1⟩ := bnd_some h0
  obtain ⟨b0, S2, h2, q2⟩ := bnd_some q1
  obtain ⟨kd, S3, h3, q3⟩ := bnd_some q2
  obtain ⟨xd, S4, h4, q4⟩ := bnd_some q3
  obtain ⟨b, S5, h5, q5⟩ := bnd_some q4
  obtain ⟨k, S6, h6, q6⟩ := bnd_some q5
  clear h0 q1 q2 q3 q4 q5
  obtain ⟨l, rfl, rfl, hl⟩ := ticD_some h2
  obtain ⟨l', el, rfl, hl'⟩ := ticD_some h5
  cases el
  obtain ⟨hk, hkd, rfl⟩ := nkD_some h6
  obtain ⟨⟨ds, rfl⟩, rfl, rfl⟩ := tgetE_some q6
  refine wpAny_Call_method m.base m.few m.line PySem.F.plainAttrs_dict PySem.F.slot_dict_get PySem.F.type_dict_get (ho.runs I er st h1 fun u s1 v W1 H1 le1 f1 st1 i1 I1 r1 => ?_)
  obtain ⟨rfl, hln⟩ := ref_at i1
  obtain rfl : u = Value.ref _ := r1
  obtain ⟨t1, t2⟩ := (ticAt st1 hl).at I1 st1
  refine ⟨t1, t2, ?_⟩
  rw [m.trees]
  refine Calls.callWith_builtin rfl (Calls.evalArgs_plain (Calls.spliced_cons (he.runs I1 (er.mono le1) st1 h3 fun iv s2 v2 W2 H2 le2 f2 st2 i2 I2 r2 => Calls.spliced_cons (hf.runs I2 ((er.mono le1).mono le2) st2 h4 fun fv s3 v3 W3 H3 le3 f3 st3 i3 I3 r3 => Calls.spliced_nil ?_))))
  have er : W3.r l = W1.r l := by rw [le3.r l (Nat.lt_of_lt_of_le hln le2.n), le2.r l hln]
  obtain ⟨xs, dd, tr, hd, hz, _⟩ := (ticAt st3 hl').is I3 st3
  rw [er] at dd hd
  have i2' := i2.mono le3
  obtain ⟨a, rfl⟩ := tup_ref i2'
  obtain rfl : iv = Value.ref a := r2
  refine getOr_keyed (knd := nestedKind X.prog X.w) (by show X.A.units + 1 + 8 < cLine; have := hr.un; omega) ⟨i2'.nested I3 st3 hk rfl, hkd⟩ hd ⟨xs, dd, rfl⟩ ?_
  have hlk := tr.look (k := k)
  have gg := ((g.step st le1 f1 st1).step st1 le2 f2 st2).step st2 le3 f3 st3
  rw [valueAt_pairsH]
  cases q : lookT b k with
  | some e' =>
    rw [q] at hlk gg
    obtain ⟨u, v, q1, q2, q3⟩ := hlk
    rw [q1]
    exact ⟨v, H3, I3.tok _, q2, gg.here st3 q3⟩
  | none =>
    rw [q] at hlk gg
    rw [hlk]
    exact ⟨v3, H3, I3.tok _, r3, gg.here st3 i3⟩
/-! ### d[k] = v -/
def tputE (env : SEnv) (b : List (D × D)) (v o kd : D) (k : NestedKey) : M Flo := match o, kd with
  | .ref l, .tup _ => fun S => if v.pure = true ∧ kd.pure = true ∧ b.length < sizeLine then some (.nx env, S.set l (.tic (putT b k kd v))) else none
  | _, _ => stuck
theorem tputE_some {env : SEnv} {b : List (D × D)} {v kd : D} {l : Nat} {k : NestedKey} {S S' : List O} {fl : Flo} (h : tputE env b v (.ref l) kd k S = some (fl, S')) : (∃ ds, kd = .tup ds) ∧ v.pure = true ∧ kd.pure = true ∧ b.length < sizeLine ∧ fl = .nx env ∧ S' = S.set l (.tic (putT b k kd v)) := by
  cases kd <;> simp only [tputE, stuck, reduceCtorEq] at h
  split at h
  · rename_i hc
    cases h
    exact ⟨⟨_, rfl⟩, hc.1, hc.2.1, hc.2.2, rfl, rfl⟩
  · cases h
def tputM (me mo mi : Env → M D) : MS := fun env => bnd (evS me env) fun v => bnd (mo (str env)) fun o => bnd (mi (str env)) fun kd => bnd (ticD o) fun b => bnd (nkD kd) fun k => tputE env b v o kd k
theorem x_tput (hr : Room j X.A) (he : Dn X e me) (ho : Dn X o mo) (hi : Dn X i mi) (hs : swapsWith e (some (.Subscript o i p)) pos.line X.env = pure false := by rfl) : Ds X (.Assign [.Subscript o i p] e pos) (tputM me mo mi) := by
  refine ⟨⟨fun pins s σ H D I h => ?_⟩⟩
  obtain ⟨W, env, S, r, st, fl, S', h0, g⟩ := h
  obtain ⟨v, S1, h1, q1⟩ := bnd_some h0
  obtain ⟨ov, S2, h2, q2⟩ := bnd_some q1
  obtain ⟨kd, S3, h3, q3⟩ := bnd_some q2
  obtain ⟨b, S4, h4, q4⟩ := bnd_some q3
  obtain ⟨k, S5, h5, q5⟩ := bnd_some q4
  clear h0 q1 q2 q3 q4
  obtain ⟨l, rfl, rfl, hl⟩ := ticD_some h4
  obtain ⟨hk, hkd, rfl⟩ := nkD_some h5
  obtain ⟨⟨ds, rfl⟩, hv, hp, hz, rfl, rfl⟩ := tputE_some q5
  refine wpAny_Assign_Subscript (thn (he.pe.run pins s σ H _ I (evS_run r st h1 (Q := fun v1 H1 => ∃ W1, W.le W1 ∧ Frame W W1 H H1 ∧ SRel X.K X.mg W1 env σ H1 ∧ StRel X.K X.mg W1 S1 H1 ∧ IsV X.K X.mg W1 v1 v) fun W1 v1 H1 le f r1 s1 i1 => ⟨W1, le, f, r1, s1, i1⟩)) fun u s1 ⟨v1, H1, I1, ru, W1, le1, f1, r1, st1, i1⟩ => ho.runs I1 r1.strict st1 h2 fun u2 s2 v2 W2 H2 le2 f2 st2 i2 I2 ru2 => hi.runs I2 (r1.strict.mono le2) st2 h3 fun u3 s3 v3 W3 H3 le3 f3 st3 i3 I3 ru3 => ?_) hs
  obtain ⟨rfl, hln0⟩ := ref_at i2
  obtain rfl : u2 = Value.ref _ := ru2
  obtain ⟨a, rfl⟩ := tup_ref i3
  obtain rfl : u3 = Value.ref a := ru3
  have hln : l < W3.n := Nat.lt_of_lt_of_le hln0 le3.n
  have er : W3.r l = W2.r l := le3.r l hln0
  obtain ⟨xs, dd, tr, hd, hxz, mu⟩ := (ticAt st3 hl).is I3 st3
  have hxl := tr.len
  rw [er] at dd hd mu
  refine wpAny_setItem_heap (knd := nestedKind X.prog X.w) (hsz := hxz) (by show X.A.units + 1 + 8 < cLine; have := hr.un; omega) ⟨i3.nested I3 st3 hk rfl, hkd⟩ dd fun h' dd' sb => ?_
  have he' : ∃ q, h'.get? (W2.r l) = some q := let ⟨q, _, _, hq, _⟩ := dd'; ⟨q, hq⟩
  have tr' := tr.put hk hkd i3 hp ru ((i1.mono le2).mono le3) hv
  have hu := storedH_length xs k a u
  have ob : ObjOk X.prog X.w (upd H3 (W2.r l) (TicO (W2.r l) (storedH xs k a u))) h' (W2.r l) (TicO (W2.r l) (storedH xs k a u)) := by
    obtain ⟨o, es, ep, e1, e2, e3, e4, e5, e6⟩ := dd'
    refine ⟨⟨o, es, ep, e1, e2, e3, fun w => ?_⟩, ⟨o, e1⟩, fun h1 h2 ⟨o', es', ep', x1, x2, x3, x4⟩ hk => ⟨o', es', ep', hk _ x1, x2, x3, x4⟩⟩
    rw [e4]
    refine List.map_congr_left fun x hx => ?_
    have : ∃ d, Pm.D.nk d = some x.1 := tr'.nkOf x hx
    obtain ⟨d, hd⟩ := this
    show (⟨x.1.hash X.w, .ref x.2.1, x.2.2⟩ : DictEntry) = _
    rw [nk_hash X.w w hd]
  have nd : ((storedH xs k a u).map (·.1)).Nodup := let ⟨_, _, _, _, _, _, _, _, q⟩ := dd'; q
  have st4 := sto_st (u := TicO (W2.r l) (storedH xs k a u)) (o := .tic (putT b k (.tup ds) v)) st3 hln ⟨storedH xs k a u, by rw [er]; exact upd_same, by rw [er]; exact hd, by omega, tr', nd⟩
  rw [er] at st4
  have ff := (f2.trans st1 st2 le2 f3 le3).trans st1 st3 (le2.trans le3) (sto_frame (u := TicO (W2.r l) (storedH xs k a u)) st3 hln) (.refl _)
  rw [er] at ff
  have fr := f1.trans st st1 le1 ff (le2.trans le3)
  have le := (le1.trans le2).trans le3
  exact ⟨σ, _, d_write (t' := s3.toks + _) I3 mu sb he' ob, g W3 σ _ le (.of fr le st4 fun _ h => h) (r.step le fr) st4⟩
end
end Pm

set_option Elab.async false
set_option linter.all false
set_option maxRecDepth 100000
set_option maxHeartbeats 600000
/-! Pm28: tuple(d.values()). -/
namespace Pm
open PySem PySem.Spec PyProof.Rows L2
def tvalsM (mo : Env → M D) : Env → M D := fun env => bnd (mo env) fun o => bnd (ticD o) fun b => ret (.tup (b.map (·.2)))
section
variable {X : Cx} {o : Expr} {mo : Env → M D} {apos cpos p pos : Pos}
theorem raw_vals {s : Shared} {H : Hp} {W : Wd} {a : Addr} {xs : List (NestedKey × Addr × Value)} (dd : s.heap.DictOfH (nestedKind X.prog X.w) a xs) : ∃ es ep, s.heap.DictRaw a es ep ∧ es.size = xs.length ∧ ∀ i (hi : i < es.size), (xs.map (·.2.2))[i]? = some es[i].val := by
  obtain ⟨es, ep, h1, h2, h3⟩ := dd.raw
  refine ⟨es, ep, h1, h2, fun i hi => ?_⟩
  obtain ⟨y, q1, _, q2, _⟩ := h3 i hi
  rw [List.getElem?_map, q1, q2]; rfl
theorem items_eq {es : Array DictEntry} {us : List Value} {acc : Array Value} (hl : es.size = us.length) (hv : ∀ i (hi : i < es.size), us[i]? = some es[i].val) (h : ItemsOf (fun i v => ∃ hi : i < es.size, v = es[i].val) acc es.size) : acc.toList = us := by
  refine List.ext_getElem? fun i => ?_
  by_cases q : i < es.size
  · have q2 : i < acc.size := by rw [h.1]; exact q
    have e1 : acc.toList[i]? = some acc[i] := by rw [Array.getElem?_toList, Array.getElem?_eq_getElem q2]
    obtain ⟨hi, e2⟩ := h.2 i acc[i] (Array.getElem?_eq_getElem q2)
    rw [e1, hv i q, e2]
  · rw [List.getElem?_eq_none (by rw [Array.length_toList, h.1]; omega), List.getElem?_eq_none (by omega)]
theorem x_tvals (hc : X.calm = true) (hm : X.mg "tuple" = none) (ho : Dn X o mo) (hg : Gl X "tuple" := by rfl) (hbase : attributeBase o "values" X.env (eval o X.env) = eval o X.env := by rfl) (hline : (apos.endLine == cpos.line) = true := by rfl)
    (na : starEach [Expr.Call (.Attribute o "values" apos) [] [] cpos] X.env = (false, eval (Expr.Call (.Attribute o "values" apos) [] [] cpos) X.env) :: starEach [] X.env := by rfl) :
    Dn X (.Call (.Name "tuple" p) [.Call (.Attribute o "values" apos) [] [] cpos] [] pos) (tvalsM mo) := by
  refine ⟨⟨fun pins s σ H Q I h => ?_⟩⟩
  obtain ⟨W, env, S, er, st, d, S', h0, g⟩ := h
  obtain ⟨ov, S1, h1, q1⟩ := bnd_some h0
  obtain ⟨b, S2, h2, q2⟩ := bnd_some q1
  clear h0 q1
  cases q2
  obtain ⟨l, rfl, rfl, hl⟩ := ticD_some h2
  refine Call_ (ld_blt I hg hm boot_tuple (PyProof.Rows.callWith_type1 (args_cons (wpAny_Call_method0_late hbase hline (ho.runs I er st h1 fun u s1 v W1 H1 le1 f1 st1 i1 I1 r1 => ?_)) na) na))
  obtain ⟨rfl, hln⟩ := ref_at i1
  obtain rfl : u = Value.ref _ := r1
  obtain ⟨xs, dd, tr, hd, hz, _⟩ := (ticAt st1 hl).is I1 st1
  obtain ⟨es, ep, raw, hs, hv⟩ := raw_vals (X := X) (H := H1) (W := W1) dd
  obtain ⟨vs, rv, iv⟩ := tr.vals
  obtain ⟨ob, ho1, hex, hdat⟩ := id raw
  refine ⟨"dict", "dict.values", F.plainAttrs_dict, F.slot_dict_values, F.type_dict_values, ⟨ob, ho1, hex.1⟩, fun c e => ?_, Calls.callWith_builtin rfl (PySem.evalArgs_none ?_)⟩
  · cases e
    exact ⟨ob, ho1, hex.2.1⟩
  refine call_meetsIn F.slot_dict_values ⟨ob, ho1, hex.1⟩ F.entry_dict_values (F.args_dict_values_1 _) (meets_dict_values_raw _ hd) ⟨⟨es, ep, raw⟩, args_nil ?_⟩
  have k1 : ∀ b u, s1.heap.get? b = some u → (s1.heap.push { cls := .type "dict_values", data := .fields #[.ref (W1.r l)] }).get? b = some u := fun b u e => Heap.get?_push_of_some _ e
  refine call_tuple_src (s := { s1 with heap := s1.heap.push { cls := .type "dict_values", data := .fields #[.ref (W1.r l)] } }) (vals_src (d := W1.r l) (es := es) (ep := ep)) (I1.ok.hd hc) ⟨⟨_, Heap.get?_push_size _ rfl, rfl, rfl⟩, raw.at fun o e => k1 _ _ e⟩ (by rw [hs]; exact hz) fun h' tk acc hk hi => ?_
  have I2 : Inv X pins σ H1 { s1 with heap := h', toks := tk } := I1.kept fun b u e => hk b u (k1 b u e)
  have ea : acc.toList = xs.map (·.2.2) := items_eq (by rw [hs, List.length_map]) hv hi
  have e : acc = (xs.map (·.2.2)).toArray := by rw [← ea]
  rw [e]
  have zl : vs.length ≤ sizeLine := by rw [rv.length, List.length_map]; exact hz
  exact newP (s := { s1 with heap := h', toks := tk }) I2 rv zl ((g.step st le1 f1 st1).tup st1 iv)
end
end Pm

set_option Elab.async false
set_option linter.all false
set_option maxRecDepth 100000
set_option maxHeartbeats 600000
/-! Pm29: max(list), min(list) of ints. -/
namespace Pm
open PySem PySem.Spec PyProof.Rows L2
def maxI : List Int → Int
  | [] => 0
  | [x] => x
  | x :: y :: r => if maxI (y :: r) ≤ x then x else maxI (y :: r)
theorem maxI_spec : ∀ {l : List Int}, l ≠ [] → maxI l ∈ l ∧ ∀ y ∈ l, y ≤ maxI l
  | [], h => absurd rfl h
  | [x], _ => ⟨List.mem_cons_self, fun y hy => by simp at hy; subst hy; exact Int.le_refl _⟩
  | x :: y :: r, _ => by
    obtain ⟨h1, h2⟩ := maxI_spec (l := y :: r) (List.cons_ne_nil _ _)
    unfold maxI
    split
    · rename_i hc
      refine ⟨List.mem_cons_self, fun z hz => ?_⟩
      rcases List.mem_cons.mp hz with rfl | hz
      · exact Int.le_refl _
      · exact Int.le_trans (h2 z hz) hc
    · rename_i hc
      refine ⟨List.mem_cons_of_mem _ h1, fun z hz => ?_⟩
      rcases List.mem_cons.mp hz with rfl | hz
      · omega
      · exact h2 z hz
theorem maxI_eq {l : List Int} {m : Int} (h1 : m ∈ l) (h2 : ∀ y ∈ l, y ≤ m) : m = maxI l := by
  obtain ⟨h3, h4⟩ := maxI_spec (List.ne_nil_of_mem h1)
  exact Int.le_antisymm (h4 _ h1) (h2 _ h3)
def maxLD : List D → M D
  | [d] => match listInts d with
    | some ns => if 0 < ns.length then ret (.int (maxI ns)) else stuck
    | none => stuck
  | _ => stuck
section
variable {K : PySem.W.Frag} {mg : Str → Option Value}
theorem rs_maxL : RSn K mg (rMax K) maxLD := fun W S H vs ds z S' Q s i q k => by
  match ds, q with
  | [d], q =>
    cases c : listInts d with
    | none => simp [maxLD, c, stuck] at q
    | some ns =>
      simp only [maxLD, c] at q
      by_cases hn : 0 < ns.length
      · rw [if_pos hn] at q
        cases q
        cases i with
        | cons i1 i2 =>
          cases i2
          obtain ⟨a, rfl, hs⟩ := i1.listInts s c
          refine ⟨a, ns, rfl, hs, hn, fun m h1 h2 => ?_⟩
          rw [maxI_eq h1 h2]
          exact k.here s (.int _)
      · rw [if_neg hn] at q; cases q
end
section
variable {X : Cx} {e : Expr} {es : List Expr} {m : Env → M (List D)} {pos p : Pos}
theorem x_maxL (hc : X.calm = true) (hm : X.mg "max" = none) (ha : DnA X (e :: es) m) (hg : Gl X "max" := by rfl) (he : starEach (e :: es) X.env = (false, eval e X.env) :: starEach es X.env := by rfl) (hpl : (backTo pos (starEach es X.env)).any (·.1) = false := by rfl) : Dn X (.Call (.Name "max" p) (e :: es) [] pos) (appA maxLD m) := dn_callB (cr_max hc) rs_maxL hg hm boot_max ha (he := he) (hpl := hpl)
end
end Pm

set_option Elab.async false
set_option linter.all false
set_option maxRecDepth 100000
set_option maxHeartbeats 4000000
namespace Lw
open PySem PySem.Spec PyProof.Rows L2 Pm
def topS (i : Nat) : Stmt := PySem.Challenge.pw_priorhall_k52_whole_knowing_beside_piece.main.body.getD i (.Pass ⟨0, 0, 0, 0⟩)
/-- no name of the module stands for a built-in -/
structure Bl (mg : Str → Option Value) : Prop where
  len_ : mg "len" = none
  range_ : mg "range" = none
  zip_ : mg "zip" = none
  enumerate_ : mg "enumerate" = none
  tuple_ : mg "tuple" = none
  list_ : mg "list" = none
  int_ : mg "int" = none
  bool_ : mg "bool" = none
  str_ : mg "str" = none
  sum_ : mg "sum" = none
  all_ : mg "all" = none
  any_ : mg "any" = none
  sorted_ : mg "sorted" = none
  abs_ : mg "abs" = none
  max_ : mg "max" = none
  min_ : mg "min" = none
  divmod_ : mg "divmod" = none
  repr_ : mg "repr" = none
  isinstance_ : mg "isinstance" = none
  dict_ : mg "dict" = none
abbrev s_is_whole : Stmt := topS 9
theorem sc_is_whole : FnScope ["value"] ["value"] (defScope s_is_whole) := ⟨rfl, rfl, rfl, by decide +kernel, rfl, by decide +kernel, by decide +kernel⟩
noncomputable def m_is_whole : MS := (retM (andV (isbM "int" (getv 0)) (notV (isbM "bool" (getv 0)))))
noncomputable def C_is_whole : List D → M D := bodyM 1 m_is_whole
theorem g_is_whole {P : Program} {w : World} {K : PySem.W.Frag} {mg : Str → Option Value} {base : Heap} {f : Addr} {fd : FuncData} (F : L2.Fun K "is_whole" "is_whole" s_is_whole f fd)
    (B : Bl mg) : FnG P w K mg base 1 f fd ["value"] (spF K mg 1 C_is_whole) :=
  fnG_okT F sc_is_whole rfl fun cdv A fr s H E hcd gd hr => (dss_one (x_ret (dn_and (x_isb (T := "int") (dn_var 0) B.isinstance_ B.int_ boot_int2) (dn_one (dn_not (x_isb (T := "bool") (dn_var 0) B.isinstance_ B.bool_ boot_bool2))))))
abbrev s_is_number : Stmt := topS 10
theorem sc_is_number : FnScope ["value", "low", "high"] ["value", "low", "high"] (defScope s_is_number) := ⟨rfl, rfl, rfl, by decide +kernel, rfl, by decide +kernel, by decide +kernel⟩
noncomputable def m_is_number : MS := (retM (andV (callF 1 C_is_whole (consA (getv 0) nilM)) (andV (bin leD (getv 1) (getv 0)) (orV (bin isND (getv 2) (cM .non)) (bin leD (getv 0) (getv 2))))))
noncomputable def C_is_number : List D → M D := bodyM 3 m_is_number
theorem g_is_number {P : Program} {w : World} {K : PySem.W.Frag} {mg : Str → Option Value} {base : Heap} {f : Addr} {fd : FuncData} {dvs : List V} (F : L2.FunD K "is_number" "is_number" (defArgs s_is_number) (defBody s_is_number) (defScope s_is_number) dvs [] f fd)
    {f_is_whole : Addr} {fd_is_whole : FuncData} (G_is_whole : FnGD P w K mg base "is_whole" f_is_whole fd_is_whole 1 ["value"] C_is_whole) : FnG P w K mg base 2 f fd ["value", "low", "high"] (spF K mg 3 C_is_number) :=
  fnG_okD F sc_is_number rfl fun cdv A fr s H E hcd gd hr => (dss_one (x_ret (dn_and (x_call G_is_whole gd hr (by decide) (da_cons (dn_var 0) x_nil)) (dn_and (dn_cmp op_le rs_intB (dn_var 1) (dn_var 0) (nomark _)) (dn_one (dn_or (dn_cmp op_isN rs_isN (dn_var 2) x_non (nomark _)) (dn_one (dn_cmp op_le rs_intB (dn_var 0) (dn_var 2) (nomark _)))))))))
abbrev s_is_between : Stmt := topS 11
theorem sc_is_between : FnScope ["value", "least", "most"] ["value", "least", "most"] (defScope s_is_between) := ⟨rfl, rfl, rfl, by decide +kernel, rfl, by decide +kernel, by decide +kernel⟩
noncomputable def m_is_between : MS := (retM (andV (callF 1 C_is_whole (consA (getv 0) nilM)) (chn leD leD (getv 1) (getv 0) (getv 2))))
noncomputable def C_is_between : List D → M D := bodyM 3 m_is_between
theorem g_is_between {P : Program} {w : World} {K : PySem.W.Frag} {mg : Str → Option Value} {base : Heap} {f : Addr} {fd : FuncData} (F : L2.Fun K "is_between" "is_between" s_is_between f fd)
    {f_is_whole : Addr} {fd_is_whole : FuncData} (G_is_whole : FnGD P w K mg base "is_whole" f_is_whole fd_is_whole 1 ["value"] C_is_whole) : FnG P w K mg base 2 f fd ["value", "least", "most"] (spF K mg 3 C_is_between) :=
  fnG_okT F sc_is_between rfl fun cdv A fr s H E hcd gd hr => (dss_one (x_ret (dn_and (x_call G_is_whole gd hr (by decide) (da_cons (dn_var 0) x_nil)) (dn_one (dn_chain op_le rs_intB op_le rs_intB (dn_var 1) (dn_var 0) (dn_var 2))))))
abbrev s_is_tuple_of : Stmt := topS 12
theorem sc_is_tuple_of : FnScope ["value", "many"] ["value", "many"] (defScope s_is_tuple_of) := ⟨rfl, rfl, rfl, by decide +kernel, rfl, by decide +kernel, by decide +kernel⟩
noncomputable def m_is_tuple_of : MS := (retM (andV (isbM "tuple" (getv 0)) (bin eqD (appA lenD (consA (getv 0) nilM)) (getv 1))))
noncomputable def C_is_tuple_of : List D → M D := bodyM 2 m_is_tuple_of
theorem g_is_tuple_of {P : Program} {w : World} {K : PySem.W.Frag} {mg : Str → Option Value} {base : Heap} {f : Addr} {fd : FuncData} (F : L2.Fun K "is_tuple_of" "is_tuple_of" s_is_tuple_of f fd)
    (B : Bl mg) : FnG P w K mg base 1 f fd ["value", "many"] (spF K mg 2 C_is_tuple_of) :=
  fnG_okT F sc_is_tuple_of rfl fun cdv A fr s H E hcd gd hr => (dss_one (x_ret (dn_and (x_isb (T := "tuple") (dn_var 0) B.isinstance_ B.tuple_ boot_tuple2) (dn_one (dn_cmp (o_eq hr) rs_eq (x_len B.len_ (da_cons (dn_var 0) x_nil)) (dn_var 1) (nomark _))))))
abbrev s_is_row : Stmt := topS 13
theorem sc_is_row : FnScope ["value", "least", "most"] ["value", "least", "most"] (defScope s_is_row) := ⟨rfl, rfl, rfl, by decide +kernel, rfl, by decide +kernel, by decide +kernel⟩
noncomputable def m_is_row : MS := (retM (andV (isbM "tuple" (getv 0)) (chn leD leD (getv 1) (appA lenD (consA (getv 0) nilM)) (getv 2))))
noncomputable def C_is_row : List D → M D := bodyM 3 m_is_row
theorem g_is_row {P : Program} {w : World} {K : PySem.W.Frag} {mg : Str → Option Value} {base : Heap} {f : Addr} {fd : FuncData} (F : L2.Fun K "is_row" "is_row" s_is_row f fd)
    (B : Bl mg) : FnG P w K mg base 1 f fd ["value", "least", "most"] (spF K mg 3 C_is_row) :=
  fnG_okT F sc_is_row rfl fun cdv A fr s H E hcd gd hr => (dss_one (x_ret (dn_and (x_isb (T := "tuple") (dn_var 0) B.isinstance_ B.tuple_ boot_tuple2) (dn_one (dn_chain op_le rs_intB op_le rs_intB (dn_var 1) (x_len B.len_ (da_cons (dn_var 0) x_nil)) (dn_var 2))))))
abbrev s_first_wrong : Stmt := topS 14
theorem sc_first_wrong : FnScope ["value", "is_right", "index", "each"] ["value", "is_right"] (defScope s_first_wrong) := ⟨rfl, rfl, rfl, by decide +kernel, rfl, by decide +kernel, by decide +kernel⟩
theorem z_first_wrong {X : Cx} {cdv : Value} {s : Shared} {H : Hp} {g f c : Addr} {q : Str} {ws : List V} {gm : List D → List D → M D} (B : Bl X.mg) (gd : X.A.guards = some [])
    (act : ∀ {e1 e2 : Expr} {m : Pm.Env → M (List D)} {p1 p2 : Pos}, DnA (cxOf CX0 X.prog X.w X.K X.mg X.base ["value", "is_right", "index", "each"] "first_wrong" (defScope s_first_wrong) g cdv X.A X.stack s H E0).nox [e1, e2] m → starEach [e1, e2] (envOfC "first_wrong" (defScope s_first_wrong) s.heap.objs.size g cdv) = (false, eval e1 (envOfC "first_wrong" (defScope s_first_wrong) s.heap.objs.size g cdv)) :: starEach [e2] (envOfC "first_wrong" (defScope s_first_wrong) s.heap.objs.size g cdv) →
        (backTo p2 (starEach [e2] (envOfC "first_wrong" (defScope s_first_wrong) s.heap.objs.size g cdv))).any (·.1) = false → Dn (cxOf CX0 X.prog X.w X.K X.mg X.base ["value", "is_right", "index", "each"] "first_wrong" (defScope s_first_wrong) g cdv X.A X.stack s H E0).nox (.Call (.Name "is_right" p1) [e1, e2] [] p2) (actM 1 f c q ws gm m)) :
    Dss (cxOf CX0 X.prog X.w X.K X.mg X.base ["value", "is_right", "index", "each"] "first_wrong" (defScope s_first_wrong) g cdv X.A X.stack s H E0).nox (defBody s_first_wrong) (fwB f c q ws gm) :=
  dss_cons (ds_for PassesOwn.never rfl (di_enum (da_cons (dn_var 0) da_nil) B.enumerate_) (pg_tup rfl (pgs_cons (pg_name (i := 2) sc_first_wrong.nd rfl (.inl rfl)) (pgs_cons (pg_name (i := 3) sc_first_wrong.nd rfl (.inl rfl)) pgs_nil))) (gss_tup (is := [2, 3]))
    (dss_one (ds_if (dt_not (dt_val (act (da_cons (dn_var 3) (da_cons (dn_slice (dn_var 0) do_none (do_some (dn_var 2))) da_nil)) rfl rfl))) (dss_one (ds_ret (dn_var 2))) dss_nil))) (dss_one (ds_ret dn_non))
abbrev s_lowest : Stmt := topS 17
theorem sc_lowest : FnScope ["over", "under", "common"] ["over", "under"] (defScope s_lowest) := ⟨rfl, rfl, rfl, by decide +kernel, rfl, by decide +kernel, by decide +kernel⟩
noncomputable def m_lowest : MS := (seqM (setM 2 (valM (ifV (tst (bin gtD (getv 1) (cM (.int 0)))) (appA gcdD (consA (getv 0) (consA (getv 1) nilM))) (negM (appA gcdD (consA (getv 0) (consA (getv 1) nilM)))))))
    (retM (tupM (consA (bin divD (getv 0) (getv 2)) (consA (bin divD (getv 1) (getv 2)) nilM)))))
noncomputable def C_lowest : List D → M D := bodyM 3 m_lowest
theorem g_lowest {P : Program} {w : World} {K : PySem.W.Frag} {mg : Str → Option Value} {base : Heap} {f : Addr} {fd : FuncData} (F : L2.Fun K "lowest" "lowest" s_lowest f fd)
    (mg_gcd : mg "gcd" = some (.builtin "math.gcd")) : FnG P w K mg base 1 f fd ["over", "under"] (spF K mg 2 C_lowest) :=
  fnG_okT F sc_lowest rfl fun cdv A fr s H E hcd gd hr => (dss_cons (ds_set (i := 2) sc_lowest.nd (.inl rfl) (dsl_val (dn_if (dt_cmp op_gt rs_intB (dn_var 1) x_int (nomark _)) (x_gcd mg_gcd (da_cons (dn_var 0) (da_cons (dn_var 1) x_nil))) (x_neg (x_gcd mg_gcd (da_cons (dn_var 0) (da_cons (dn_var 1) x_nil)))))))
      (dss_one (x_ret (x_tup (da_cons (dn_div (dn_var 0) (dn_var 2)) (da_cons (dn_div (dn_var 1) (dn_var 2)) x_nil))))))
abbrev s_is_fraction : Stmt := topS 18
theorem sc_is_fraction : FnScope ["value"] ["value"] (defScope s_is_fraction) := ⟨rfl, rfl, rfl, by decide +kernel, rfl, by decide +kernel, by decide +kernel⟩
noncomputable def m_is_fraction : MS := (seqM (ifM (orT (notT (tst (callF 2 C_is_tuple_of (consA (getv 0) (consA (cM (.int 2)) nilM))))) (orT (notT (tst (callF 1 C_is_whole (consA (bin ixD (getv 0) (cM (.int 0))) nilM)))) (notT (tst (cdM 3 [.non] C_is_number (consA (bin ixD (getv 0) (cM (.int 1))) (consA (cM (.int 1)) nilM))))))) (retM (cM (.bl false))) nopM)
    (retM (bin eqD (appA gcdD (consA (bin ixD (getv 0) (cM (.int 0))) (consA (bin ixD (getv 0) (cM (.int 1))) nilM))) (cM (.int 1)))))
noncomputable def C_is_fraction : List D → M D := bodyM 1 m_is_fraction
theorem g_is_fraction {P : Program} {w : World} {K : PySem.W.Frag} {mg : Str → Option Value} {base : Heap} {f : Addr} {fd : FuncData} (F : L2.Fun K "is_fraction" "is_fraction" s_is_fraction f fd)
    {f_is_number : Addr} {fd_is_number : FuncData} (G_is_number : FnGD P w K mg base "is_number" f_is_number fd_is_number 2 ["value", "low", "high"] C_is_number)
    (df_is_number_2 : DfD K mg fd_is_number ["value", "low", "high"] [.non])
    {f_is_whole : Addr} {fd_is_whole : FuncData} (G_is_whole : FnGD P w K mg base "is_whole" f_is_whole fd_is_whole 1 ["value"] C_is_whole)
    {f_is_tuple_of : Addr} {fd_is_tuple_of : FuncData} (G_is_tuple_of : FnGD P w K mg base "is_tuple_of" f_is_tuple_of fd_is_tuple_of 1 ["value", "many"] C_is_tuple_of)
    (mg_gcd : mg "gcd" = some (.builtin "math.gcd")) : FnG P w K mg base 3 f fd ["value"] (spF K mg 1 C_is_fraction) :=
  fnG_okT F sc_is_fraction rfl fun cdv A fr s H E hcd gd hr => (dss_cons (ds_if (dt_w (dw_or (dt_not (dt_val (x_call G_is_tuple_of gd hr (by decide) (da_cons (dn_var 0) (da_cons x_int x_nil))))) (dw_or (dt_not (dt_val (x_call G_is_whole gd hr (by decide) (da_cons (dn_sub1 (dn_var 0) x_int) x_nil)))) (dw_or1 (dt_not (dt_val (x_callD G_is_number gd hr (by decide) df_is_number_2 (da_cons (dn_sub1 (dn_var 0) x_int) (da_cons x_int x_nil))))))))) (dss_one (x_ret x_bl)) x_ss0)
      (dss_one (x_ret (dn_cmp (o_eq hr) rs_eq (x_gcd mg_gcd (da_cons (dn_sub1 (dn_var 0) x_int) (da_cons (dn_sub1 (dn_var 0) x_int) x_nil))) x_int (nomark _)))))
abbrev s_plus : Stmt := topS 19
theorem sc_plus : FnScope ["one", "other"] ["one", "other"] (defScope s_plus) := ⟨rfl, rfl, rfl, by decide +kernel, rfl, by decide +kernel, by decide +kernel⟩
noncomputable def m_plus : MS := (retM (callF 2 C_lowest (consA (bin addD (bin mulD (bin ixD (getv 0) (cM (.int 0))) (bin ixD (getv 1) (cM (.int 1)))) (bin mulD (bin ixD (getv 1) (cM (.int 0))) (bin ixD (getv 0) (cM (.int 1))))) (consA (bin mulD (bin ixD (getv 0) (cM (.int 1))) (bin ixD (getv 1) (cM (.int 1)))) nilM))))
noncomputable def C_plus : List D → M D := bodyM 2 m_plus
theorem g_plus {P : Program} {w : World} {K : PySem.W.Frag} {mg : Str → Option Value} {base : Heap} {f : Addr} {fd : FuncData} (F : L2.Fun K "plus" "plus" s_plus f fd)
    {f_lowest : Addr} {fd_lowest : FuncData} (G_lowest : FnGD P w K mg base "lowest" f_lowest fd_lowest 1 ["over", "under"] C_lowest) : FnG P w K mg base 2 f fd ["one", "other"] (spF K mg 2 C_plus) :=
  fnG_okT F sc_plus rfl fun cdv A fr s H E hcd gd hr => (dss_one (x_ret (x_call G_lowest gd hr (by decide) (da_cons (dn_add (dn_mul (dn_sub1 (dn_var 0) x_int) (dn_sub1 (dn_var 1) x_int)) (dn_mul (dn_sub1 (dn_var 1) x_int) (dn_sub1 (dn_var 0) x_int))) (da_cons (dn_mul (dn_sub1 (dn_var 0) x_int) (dn_sub1 (dn_var 1) x_int)) x_nil)))))
abbrev s_times : Stmt := topS 20
theorem sc_times : FnScope ["one", "other"] ["one", "other"] (defScope s_times) := ⟨rfl, rfl, rfl, by decide +kernel, rfl, by decide +kernel, by decide +kernel⟩
noncomputable def m_times : MS := (retM (callF 2 C_lowest (consA (bin mulD (bin ixD (getv 0) (cM (.int 0))) (bin ixD (getv 1) (cM (.int 0)))) (consA (bin mulD (bin ixD (getv 0) (cM (.int 1))) (bin ixD (getv 1) (cM (.int 1)))) nilM))))
noncomputable def C_times : List D → M D := bodyM 2 m_times
theorem g_times {P : Program} {w : World} {K : PySem.W.Frag} {mg : Str → Option Value} {base : Heap} {f : Addr} {fd : FuncData} (F : L2.Fun K "times" "times" s_times f fd)
    {f_lowest : Addr} {fd_lowest : FuncData} (G_lowest : FnGD P w K mg base "lowest" f_lowest fd_lowest 1 ["over", "under"] C_lowest) : FnG P w K mg base 2 f fd ["one", "other"] (spF K mg 2 C_times) :=
  fnG_okT F sc_times rfl fun cdv A fr s H E hcd gd hr => (dss_one (x_ret (x_call G_lowest gd hr (by decide) (da_cons (dn_mul (dn_sub1 (dn_var 0) x_int) (dn_sub1 (dn_var 1) x_int)) (da_cons (dn_mul (dn_sub1 (dn_var 0) x_int) (dn_sub1 (dn_var 1) x_int)) x_nil)))))
abbrev s_divided : Stmt := topS 21
theorem sc_divided : FnScope ["one", "other"] ["one", "other"] (defScope s_divided) := ⟨rfl, rfl, rfl, by decide +kernel, rfl, by decide +kernel, by decide +kernel⟩
noncomputable def m_divided : MS := (retM (callF 2 C_lowest (consA (bin mulD (bin ixD (getv 0) (cM (.int 0))) (bin ixD (getv 1) (cM (.int 1)))) (consA (bin mulD (bin ixD (getv 0) (cM (.int 1))) (bin ixD (getv 1) (cM (.int 0)))) nilM))))
noncomputable def C_divided : List D → M D := bodyM 2 m_divided
theorem g_divided {P : Program} {w : World} {K : PySem.W.Frag} {mg : Str → Option Value} {base : Heap} {f : Addr} {fd : FuncData} (F : L2.Fun K "divided" "divided" s_divided f fd)
    {f_lowest : Addr} {fd_lowest : FuncData} (G_lowest : FnGD P w K mg base "lowest" f_lowest fd_lowest 1 ["over", "under"] C_lowest) : FnG P w K mg base 2 f fd ["one", "other"] (spF K mg 2 C_divided) :=
  fnG_okT F sc_divided rfl fun cdv A fr s H E hcd gd hr => (dss_one (x_ret (x_call G_lowest gd hr (by decide) (da_cons (dn_mul (dn_sub1 (dn_var 0) x_int) (dn_sub1 (dn_var 1) x_int)) (da_cons (dn_mul (dn_sub1 (dn_var 0) x_int) (dn_sub1 (dn_var 1) x_int)) x_nil)))))
abbrev s_sum_of : Stmt := topS 22
theorem sc_sum_of : FnScope ["fractions", "found", "each"] ["fractions"] (defScope s_sum_of) := ⟨rfl, rfl, rfl, by decide +kernel, rfl, by decide +kernel, by decide +kernel⟩
noncomputable def m_sum_of : MS := (seqM (setM 1 (valM (cM (.tup [(.int 0), (.int 1)]))))
    (seqM (forM (itM (getv 0)) (setNS 2) (setM 1 (valM (callF 2 C_plus (consA (getv 1) (consA (getv 2) nilM))))))
    (retM (getv 1))))
noncomputable def C_sum_of : List D → M D := bodyM 3 m_sum_of
theorem g_sum_of {P : Program} {w : World} {K : PySem.W.Frag} {mg : Str → Option Value} {base : Heap} {f : Addr} {fd : FuncData} (F : L2.Fun K "sum_of" "sum_of" s_sum_of f fd)
    (c_ZERO : Cst K mg "ZERO" (.tup [(.int 0), (.int 1)]))
    {f_plus : Addr} {fd_plus : FuncData} (G_plus : FnGD P w K mg base "plus" f_plus fd_plus 2 ["one", "other"] C_plus) : FnG P w K mg base 3 f fd ["fractions"] (spF K mg 1 C_sum_of) :=
  fnG_okT F sc_sum_of rfl fun cdv A fr s H E hcd gd hr => (dss_cons (ds_set (i := 1) sc_sum_of.nd (.inl rfl) (dsl_val (x_cst c_ZERO)))
      (dss_cons (ds_for PassesOwn.never rfl (x_it (dn_var 0)) (pg_name (i := 2) sc_sum_of.nd rfl (.inl rfl)) (gss_name (i := 2)) (dss_one (ds_set (i := 1) sc_sum_of.nd (.inl rfl) (dsl_val (x_call G_plus gd hr (by decide) (da_cons (dn_var 1) (da_cons (dn_var 2) x_nil)))))))
      (dss_one (x_ret (dn_var 1)))))
abbrev s_is_cases : Stmt := topS 27
theorem sc_is_cases : FnScope ["value"] ["value"] (defScope s_is_cases) := ⟨rfl, rfl, rfl, by decide +kernel, rfl, by decide +kernel, by decide +kernel⟩
noncomputable def m_is_cases : MS := (retM (callF 3 C_is_between (consA (getv 0) (consA (cM (.int 2)) (consA (cM (.int 6)) nilM)))))
noncomputable def C_is_cases : List D → M D := bodyM 1 m_is_cases
theorem g_is_cases {P : Program} {w : World} {K : PySem.W.Frag} {mg : Str → Option Value} {base : Heap} {f : Addr} {fd : FuncData} (F : L2.Fun K "is_cases" "is_cases" s_is_cases f fd)
    {f_is_between : Addr} {fd_is_between : FuncData} (G_is_between : FnGD P w K mg base "is_between" f_is_between fd_is_between 2 ["value", "least", "most"] C_is_between)
    (c_FEWEST_CASES : Cst K mg "FEWEST_CASES" (.int 2))
    (c_MOST_CASES : Cst K mg "MOST_CASES" (.int 6)) : FnG P w K mg base 3 f fd ["value"] (spF K mg 1 C_is_cases) :=
  fnG_okT F sc_is_cases rfl fun cdv A fr s H E hcd gd hr => (dss_one (x_ret (x_call G_is_between gd hr (by decide) (da_cons (dn_var 0) (da_cons (x_cst c_FEWEST_CASES) (da_cons (x_cst c_MOST_CASES) x_nil))))))
abbrev s_is_lot_of : Stmt := topS 28
theorem sc_is_lot_of : FnScope ["cases", "value", "case", "one", "other"] ["cases", "value"] (defScope s_is_lot_of) := ⟨rfl, rfl, rfl, by decide +kernel, rfl, by decide +kernel, by decide +kernel⟩
noncomputable def m_is_lot_of : MS := (seqM (ifM (orT (notT (tst (isbM "tuple" (getv 1)))) (notT (tst (appA allD (consA (lstM (lcM [2] (itM (getv 1)) (setN 2) yesM (callF 3 C_is_between (consA (getv 2) (consA (cM (.int 0)) (consA (bin subD (getv 0) (cM (.int 1))) nilM)))))) nilM))))) (retM (cM (.bl false))) nopM)
    (retM (appA allD (consA (lstM (lcM [3, 4] (zipM (consA (getv 1) (consA (slM (getv 1) (soM (cM (.int 1))) noM) nilM))) (setT [3, 4]) yesM (bin ltD (getv 3) (getv 4)))) nilM))))
noncomputable def C_is_lot_of : List D → M D := bodyM 5 m_is_lot_of
theorem g_is_lot_of {P : Program} {w : World} {K : PySem.W.Frag} {mg : Str → Option Value} {base : Heap} {f : Addr} {fd : FuncData} (F : L2.Fun K "is_lot_of" "is_lot_of" s_is_lot_of f fd)
    {f_is_between : Addr} {fd_is_between : FuncData} (G_is_between : FnGD P w K mg base "is_between" f_is_between fd_is_between 2 ["value", "least", "most"] C_is_between)
    (B : Bl mg) : FnG P w K mg base 3 f fd ["cases", "value"] (spF K mg 2 C_is_lot_of) :=
  fnG_okT F sc_is_lot_of rfl fun cdv A fr s H E hcd gd hr => (dss_cons (ds_if (dt_w (dw_or (dt_not (dt_val (x_isb (T := "tuple") (dn_var 1) B.isinstance_ B.tuple_ boot_tuple2))) (dw_or1 (dt_not (dt_val (x_all rfl B.all_ (da_cons (x_lst (dl_comp (own := [("case", 2)]) rfl sc_is_lot_of.nd (x_it (dn_var 1)) (blkOk_by (by kernel_rfl)) (gs_name (i := 2) (by decide)) (fun _ _ _ _ _ => (pg_name (i := 2) sc_is_lot_of.nd rfl (by first | exact Or.inl rfl | exact Or.inr rfl))) (fun _ _ _ _ _ => x_ts0) (fun _ _ _ _ _ => (x_call G_is_between gd hr (by decide) (da_cons (dn_var 2) (da_cons x_int (da_cons (dn_sub (dn_var 0) x_int) x_nil))))))) x_nil))))))) (dss_one (x_ret x_bl)) x_ss0)
      (dss_one (x_ret (x_all rfl B.all_ (da_cons (x_lst (dl_comp (own := [("one", 3), ("other", 4)]) rfl sc_is_lot_of.nd (x_zip (da_cons (dn_var 1) (da_cons (dn_slice (dn_var 1) (x_so x_int) x_no) x_nil)) B.zip_) (blkOk_by (by kernel_rfl)) (gs_tup (is := [3, 4]) (by decide)) (fun _ _ _ _ _ => (pg_tup rfl (pgs_cons (pg_name (i := 3) sc_is_lot_of.nd rfl (by first | exact Or.inl rfl | exact Or.inr rfl)) (pgs_cons (pg_name (i := 4) sc_is_lot_of.nd rfl (by first | exact Or.inl rfl | exact Or.inr rfl)) pgs_nil)))) (fun _ _ _ _ _ => x_ts0) (fun _ _ _ _ _ => (dn_cmp op_lt rs_intB (dn_var 3) (dn_var 4) (nomark _))))) x_nil)))))
abbrev s_are_chances : Stmt := topS 29
theorem sc_are_chances : FnScope ["value", "many", "each"] ["value", "many"] (defScope s_are_chances) := ⟨rfl, rfl, rfl, by decide +kernel, rfl, by decide +kernel, by decide +kernel⟩
noncomputable def m_are_chances : MS := (seqM (ifM (orT (notT (tst (callF 2 C_is_tuple_of (consA (getv 0) (consA (getv 1) nilM))))) (notT (tst (appA allD (consA (lstM (lcM [2] (itM (getv 0)) (setN 2) yesM (andV (callF 1 C_is_fraction (consA (getv 2) nilM)) (bin gtD (bin ixD (getv 2) (cM (.int 0))) (cM (.int 0)))))) nilM))))) (retM (cM (.bl false))) nopM)
    (retM (bin eqD (callF 1 C_sum_of (consA (getv 0) nilM)) (cM (.tup [(.int 1), (.int 1)])))))
noncomputable def C_are_chances : List D → M D := bodyM 3 m_are_chances
theorem g_are_chances {P : Program} {w : World} {K : PySem.W.Frag} {mg : Str → Option Value} {base : Heap} {f : Addr} {fd : FuncData} (F : L2.Fun K "are_chances" "are_chances" s_are_chances f fd)
    {f_is_fraction : Addr} {fd_is_fraction : FuncData} (G_is_fraction : FnGD P w K mg base "is_fraction" f_is_fraction fd_is_fraction 3 ["value"] C_is_fraction)
    (B : Bl mg)
    {f_is_tuple_of : Addr} {fd_is_tuple_of : FuncData} (G_is_tuple_of : FnGD P w K mg base "is_tuple_of" f_is_tuple_of fd_is_tuple_of 1 ["value", "many"] C_is_tuple_of)
    {f_sum_of : Addr} {fd_sum_of : FuncData} (G_sum_of : FnGD P w K mg base "sum_of" f_sum_of fd_sum_of 3 ["fractions"] C_sum_of)
    (c_ONE : Cst K mg "ONE" (.tup [(.int 1), (.int 1)])) : FnG P w K mg base 4 f fd ["value", "many"] (spF K mg 2 C_are_chances) :=
  fnG_okT F sc_are_chances rfl fun cdv A fr s H E hcd gd hr => (dss_cons (ds_if (dt_w (dw_or (dt_not (dt_val (x_call G_is_tuple_of gd hr (by decide) (da_cons (dn_var 0) (da_cons (dn_var 1) x_nil))))) (dw_or1 (dt_not (dt_val (x_all rfl B.all_ (da_cons (x_lst (dl_comp (own := [("each", 2)]) rfl sc_are_chances.nd (x_it (dn_var 0)) (blkOk_by (by kernel_rfl)) (gs_name (i := 2) (by decide)) (fun _ _ _ _ _ => (pg_name (i := 2) sc_are_chances.nd rfl (by first | exact Or.inl rfl | exact Or.inr rfl))) (fun _ _ _ _ _ => x_ts0) (fun _ _ _ _ _ => (dn_and (x_call G_is_fraction gd hr (by decide) (da_cons (dn_var 2) x_nil)) (dn_one (dn_cmp op_gt rs_intB (dn_sub1 (dn_var 2) x_int) x_int (nomark _))))))) x_nil))))))) (dss_one (x_ret x_bl)) x_ss0)
      (dss_one (x_ret (dn_cmp (o_eq hr) rs_eq (x_call G_sum_of gd hr (by decide) (da_cons (dn_var 0) x_nil)) (x_cst c_ONE) (nomark _)))))
abbrev s_is_part : Stmt := topS 30
theorem sc_is_part : FnScope ["cases", "value"] ["cases", "value"] (defScope s_is_part) := ⟨rfl, rfl, rfl, by decide +kernel, rfl, by decide +kernel, by decide +kernel⟩
noncomputable def m_is_part : MS := (seqM (ifM (orT (notT (tst (callF 2 C_is_tuple_of (consA (getv 1) (consA (cM (.int 2)) nilM))))) (orT (notT (tst (callF 2 C_is_lot_of (consA (getv 0) (consA (bin ixD (getv 1) (cM (.int 0))) nilM))))) (tst (bin eqD (bin ixD (getv 1) (cM (.int 0))) (tupM nilM))))) (retM (cM (.bl false))) nopM)
    (retM (callF 2 C_are_chances (consA (bin ixD (getv 1) (cM (.int 1))) (consA (appA lenD (consA (bin ixD (getv 1) (cM (.int 0))) nilM)) nilM)))))
noncomputable def C_is_part : List D → M D := bodyM 2 m_is_part
theorem g_is_part {P : Program} {w : World} {K : PySem.W.Frag} {mg : Str → Option Value} {base : Heap} {f : Addr} {fd : FuncData} (F : L2.Fun K "is_part" "is_part" s_is_part f fd)
    {f_is_lot_of : Addr} {fd_is_lot_of : FuncData} (G_is_lot_of : FnGD P w K mg base "is_lot_of" f_is_lot_of fd_is_lot_of 3 ["cases", "value"] C_is_lot_of)
    {f_is_tuple_of : Addr} {fd_is_tuple_of : FuncData} (G_is_tuple_of : FnGD P w K mg base "is_tuple_of" f_is_tuple_of fd_is_tuple_of 1 ["value", "many"] C_is_tuple_of)
    {f_are_chances : Addr} {fd_are_chances : FuncData} (G_are_chances : FnGD P w K mg base "are_chances" f_are_chances fd_are_chances 4 ["value", "many"] C_are_chances)
    (B : Bl mg) : FnG P w K mg base 5 f fd ["cases", "value"] (spF K mg 2 C_is_part) :=
  fnG_okT F sc_is_part rfl fun cdv A fr s H E hcd gd hr => (dss_cons (ds_if (dt_w (dw_or (dt_not (dt_val (x_call G_is_tuple_of gd hr (by decide) (da_cons (dn_var 1) (da_cons x_int x_nil))))) (dw_or (dt_not (dt_val (x_call G_is_lot_of gd hr (by decide) (da_cons (dn_var 0) (da_cons (dn_sub1 (dn_var 1) x_int) x_nil))))) (dw_or1 (dt_cmp (o_eq hr) rs_eq (dn_sub1 (dn_var 1) x_int) (x_tup x_nil) (nomark _)))))) (dss_one (x_ret x_bl)) x_ss0)
      (dss_one (x_ret (x_call G_are_chances gd hr (by decide) (da_cons (dn_sub1 (dn_var 1) x_int) (da_cons (x_len B.len_ (da_cons (dn_sub1 (dn_var 1) x_int) x_nil)) x_nil))))))
abbrev s_is_telling : Stmt := topS 31
theorem sc_is_telling : FnScope ["cases", "value", "firsts", "every", "part", "case"] ["cases", "value"] (defScope s_is_telling) := ⟨rfl, rfl, rfl, by decide +kernel, rfl, by decide +kernel, by decide +kernel⟩
noncomputable def m_is_telling : MS := (seqM (ifM (orT (notT (tst (isbM "tuple" (getv 1)))) (notT (tst (appA allD (consA (lstM (lcM [4] (itM (getv 1)) (setN 4) yesM (callF 2 C_is_part (consA (getv 0) (consA (getv 4) nilM))))) nilM))))) (retM (cM (.bl false))) nopM)
    (seqM (parM [2, 3] (slsM (ownM (lcM [4] (itM (getv 1)) (setN 4) yesM (bin ixD (bin ixD (getv 4) (cM (.int 0))) (cM (.int 0))))) (slsM (ownM (lc2M [4, 5] [5] (itM (getv 1)) (setN 4) yesM (itM (bin ixD (getv 4) (cM (.int 0)))) (setN 5) yesM (getv 5))) sl0M)))
    (retM (andV (bin eqD (getv 2) (appA sortedD (consA (getv 2) nilM))) (bin eqD (appA sortedD (consA (getv 3) nilM)) (lrM (ra1M (getv 0))))))))
noncomputable def C_is_telling : List D → M D := bodyM 6 m_is_telling
theorem g_is_telling {P : Program} {w : World} {K : PySem.W.Frag} {mg : Str → Option Value} {base : Heap} {f : Addr} {fd : FuncData} (F : L2.Fun K "is_telling" "is_telling" s_is_telling f fd)
    {f_is_part : Addr} {fd_is_part : FuncData} (G_is_part : FnGD P w K mg base "is_part" f_is_part fd_is_part 5 ["cases", "value"] C_is_part)
    (B : Bl mg) : FnG P w K mg base 6 f fd ["cases", "value"] (spF K mg 2 C_is_telling) :=
  fnG_okT F sc_is_telling rfl fun cdv A fr s H E hcd gd hr => (dss_cons (ds_if (dt_w (dw_or (dt_not (dt_val (x_isb (T := "tuple") (dn_var 1) B.isinstance_ B.tuple_ boot_tuple2))) (dw_or1 (dt_not (dt_val (x_all rfl B.all_ (da_cons (x_lst (dl_comp (own := [("part", 4)]) rfl sc_is_telling.nd (x_it (dn_var 1)) (blkOk_by (by kernel_rfl)) (gs_name (i := 4) (by decide)) (fun _ _ _ _ _ => (pg_name (i := 4) sc_is_telling.nd rfl (by first | exact Or.inl rfl | exact Or.inr rfl))) (fun _ _ _ _ _ => x_ts0) (fun _ _ _ _ _ => (x_call G_is_part gd hr (by decide) (da_cons (dn_var 0) (da_cons (dn_var 4) x_nil)))))) x_nil))))))) (dss_one (x_ret x_bl)) x_ss0)
      (dss_cons (ds_par (i := 2) (j := 3) rfl sc_is_telling.nd (by decide) (x_sls (dsl_own (dl_comp (own := [("part", 4)]) rfl sc_is_telling.nd (x_it (dn_var 1)) (blkOk_by (by kernel_rfl)) (gs_name (i := 4) (by decide)) (fun _ _ _ _ _ => (pg_name (i := 4) sc_is_telling.nd rfl (by first | exact Or.inl rfl | exact Or.inr rfl))) (fun _ _ _ _ _ => x_ts0) (fun _ _ _ _ _ => (dn_sub1 (dn_sub1 (dn_var 4) x_int) x_int)))) (x_sls (dsl_own (dl_comp2 (own := [("part", 4), ("case", 5)]) (vs1 := [5]) rfl sc_is_telling.nd (x_it (dn_var 1)) (blkOk_by (by kernel_rfl)) (by decide) (gs_name (i := 4) (by decide)) (gs_name (i := 5) (by decide)) (fun _ _ _ _ _ => (pg_name (i := 4) sc_is_telling.nd rfl (by first | exact Or.inl rfl | exact Or.inr rfl))) (fun _ _ _ _ _ => x_ts0) (fun _ _ _ _ _ => (x_it (dn_sub1 (dn_var 4) x_int))) (fun _ _ _ _ _ => (pg_name (i := 5) sc_is_telling.nd rfl (by first | exact Or.inl rfl | exact Or.inr rfl))) (fun _ _ _ _ _ => x_ts0) (fun _ _ _ _ _ => (dn_var 5)))) x_sl0)))
      (dss_one (x_ret (dn_and (dn_cmp (o_eq hr) rs_eq (dn_var 2) (x_sorted B.sorted_ (da_cons (dn_var 2) x_nil)) (nomark _)) (dn_one (dn_cmp (o_eq hr) rs_eq (x_sorted B.sorted_ (da_cons (dn_var 3) x_nil)) (x_lr rfl (x_ra1 (dn_var 0) B.range_) B.list_) (nomark _))))))))
abbrev s_wrong_telling : Stmt := topS 32
theorem sc_wrong_telling : FnScope ["cases", "value"] ["cases", "value"] (defScope s_wrong_telling) := ⟨rfl, rfl, rfl, by decide +kernel, rfl, by decide +kernel, by decide +kernel⟩
noncomputable def m_wrong_telling : MS := (retM (lamC "wrong_telling" [0] (getv 1) (fun cap d => fwR (lamG 2 3 (callF 2 C_is_telling (consA (getv 2) (consA (getv 0) nilM))) cap) d)))
noncomputable def C_wrong_telling : List D → M D := bodyM 2 m_wrong_telling
theorem g_wrong_telling {P : Program} {w : World} {K : PySem.W.Frag} {mg : Str → Option Value} {base : Heap} {f : Addr} {fd : FuncData} (F : L2.Fun K "wrong_telling" "wrong_telling" s_wrong_telling f fd)
    {f_is_telling : Addr} {fd_is_telling : FuncData} (G_is_telling : FnGD P w K mg base "is_telling" f_is_telling fd_is_telling 6 ["cases", "value"] C_is_telling)
    (B : Bl mg)
    {c0_wrong_telling P0_wrong_telling : Addr} (lc_wrong_telling : ∀ cdv, fd.code = cdv → cdv = .ref c0_wrong_telling) (lt_wrong_telling : PySem.W.tabIn K "wrong_telling" = some (c0_wrong_telling, P0_wrong_telling)) (lb_wrong_telling : LamX.TabB base mg c0_wrong_telling P0_wrong_telling)
    {f_first_wrong : Addr} {fd_first_wrong : FuncData} (F_first_wrong : L2.Fun K "first_wrong" "first_wrong" s_first_wrong f_first_wrong fd_first_wrong) (gm_first_wrong : mg "first_wrong" = some (.ref f_first_wrong)) (bn_first_wrong : Binds K fd_first_wrong ["value", "is_right"] []) : FnG P w K mg base 9 f fd ["cases", "value"] (spF K mg 2 C_wrong_telling) :=
  fnG_okT F sc_wrong_telling rfl fun cdv A fr s H E hcd gd hr => (dss_one (x_ret (dn_lamcall (x := "first_wrong") (y := "wrong_telling") (a := "is_right") (i := 1) (n := 4) (np := 2) (nl := 3) (Nl := ["telling", "ahead", "cases"]) (pl := ["telling", "ahead"]) (fr := ["cases"]) (js := [0]) (kl := 6) (mB := fwB) (R := fwR) F_first_wrong gm_first_wrong F_first_wrong.kp bn_first_wrong sc_first_wrong rfl rfl gd hr (by decide) (dn_var 1) rfl (lc_wrong_telling _ hcd) lt_wrong_telling lb_wrong_telling (NdefX.nscope_by (by decide +kernel)) rfl rfl (by decide) rfl (by kernel_rfl) rfl (fun _ _ _ _ _ us hl => match us, hl with | [_, _], _ => rfl) (fun A outer s2 H2 f c gd hr => (x_call G_is_telling gd hr (by decide) (da_cons (dn_var 2) (da_cons (dn_var 0) x_nil)))) (fun cdv s H f c q ws hr act => z_first_wrong B gd act) (fun f c q ws gm cap d S r h => fw_law h) rfl (.inl rfl))))
abbrev s_check_tellings : Stmt := topS 33
theorem sc_check_tellings : FnScope ["cases", "tellings", "wrong"] ["cases", "tellings"] (defScope s_check_tellings) := ⟨rfl, rfl, rfl, by decide +kernel, rfl, by decide +kernel, by decide +kernel⟩
noncomputable def m_check_tellings : MS := (seqM (ifM (notT (tst (callF 3 C_is_row (consA (getv 1) (consA (cM (.int 1)) (consA (cM (.int 3)) nilM)))))) offM nopM)
    (seqM (setM 2 (valM (callF 2 C_wrong_telling (consA (getv 0) (consA (getv 1) nilM)))))
    (ifM (tst (bin notND (getv 2) (cM .non))) offM nopM)))
noncomputable def C_check_tellings : List D → M D := bodyM 3 m_check_tellings
theorem g_check_tellings {P : Program} {w : World} {K : PySem.W.Frag} {mg : Str → Option Value} {base : Heap} {f : Addr} {fd : FuncData} (F : L2.Fun K "check_tellings" "check_tellings" s_check_tellings f fd)
    {f_is_row : Addr} {fd_is_row : FuncData} (G_is_row : FnGD P w K mg base "is_row" f_is_row fd_is_row 1 ["value", "least", "most"] C_is_row)
    (c_MOST_PERSONS : Cst K mg "MOST_PERSONS" (.int 3))
    {f_wrong_telling : Addr} {fd_wrong_telling : FuncData} (G_wrong_telling : FnGD P w K mg base "wrong_telling" f_wrong_telling fd_wrong_telling 9 ["cases", "value"] C_wrong_telling) : FnG P w K mg base 10 f fd ["cases", "tellings"] (spF K mg 2 C_check_tellings) :=
  fnG_okT F sc_check_tellings rfl fun cdv A fr s H E hcd gd hr => (dss_cons (ds_if (dt_not (dt_val (x_call G_is_row gd hr (by decide) (da_cons (dn_var 1) (da_cons x_int (da_cons (x_cst c_MOST_PERSONS) x_nil)))))) (dss_one x_off) x_ss0)
      (dss_cons (ds_set (i := 2) sc_check_tellings.nd (.inl rfl) (dsl_val (x_call G_wrong_telling gd hr (by decide) (da_cons (dn_var 0) (da_cons (dn_var 1) x_nil)))))
      (dss_one (ds_if (dt_cmp op_notN rs_notN (dn_var 2) x_non (nomark _)) (dss_one x_off) x_ss0))))
abbrev s_Hall_init : Stmt := L2.inClass (topS 34) 0
theorem sc_Hall_init : FnScope ["self", "cases", "tellings"] ["self", "cases", "tellings"] (defScope s_Hall_init) := ⟨rfl, rfl, rfl, by decide +kernel, rfl, by decide +kernel, by decide +kernel⟩
noncomputable def m_Hall_init : MS := (seqM (ifM (notT (tst (callF 1 C_is_cases (consA (getv 1) nilM)))) offM nopM)
    (seqM (expM (callF 2 C_check_tellings (consA (getv 1) (consA (getv 2) nilM))))
    (seqM (fstoM "Hall" "cases" (getv 1) (getv 0))
    (fstoM "Hall" "tellings" (getv 2) (getv 0)))))
noncomputable def C_Hall_init : List D → M D := bodyM 3 m_Hall_init
theorem g_Hall_init {P : Program} {w : World} {K : PySem.W.Frag} {mg : Str → Option Value} {base : Heap} {f : Addr} {fd : FuncData} (F : L2.Fun K "__init__" "Hall.__init__" s_Hall_init f fd)
    {f_is_cases : Addr} {fd_is_cases : FuncData} (G_is_cases : FnGD P w K mg base "is_cases" f_is_cases fd_is_cases 3 ["value"] C_is_cases)
    {f_check_tellings : Addr} {fd_check_tellings : FuncData} (G_check_tellings : FnGD P w K mg base "check_tellings" f_check_tellings fd_check_tellings 10 ["cases", "tellings"] C_check_tellings)
    (at_Hall_cases : ∀ C, mg "Hall" = some (.ref C) → Cls K C ∧ NoAttr K C "cases")
    (at_Hall_tellings : ∀ C, mg "Hall" = some (.ref C) → Cls K C ∧ NoAttr K C "tellings") : FnG P w K mg base 11 f fd ["self", "cases", "tellings"] (spF K mg 3 C_Hall_init) :=
  fnG_okT F sc_Hall_init rfl fun cdv A fr s H E hcd gd hr => (dss_cons (ds_if (dt_not (dt_val (x_call G_is_cases gd hr (by decide) (da_cons (dn_var 1) x_nil)))) (dss_one x_off) x_ss0)
      (dss_cons (x_exp (x_call G_check_tellings gd hr (by decide) (da_cons (dn_var 1) (da_cons (dn_var 2) x_nil))))
      (dss_cons (ds_fld "Hall" at_Hall_cases (dn_var 1) (dn_var 0))
      (dss_one (ds_fld "Hall" at_Hall_tellings (dn_var 2) (dn_var 0))))))
abbrev s_check_hall : Stmt := topS 36
theorem sc_check_hall : FnScope ["value"] ["value"] (defScope s_check_hall) := ⟨rfl, rfl, rfl, by decide +kernel, rfl, by decide +kernel, by decide +kernel⟩
noncomputable def m_check_hall : MS := (ifM (notT (tst (iscM "Hall" (getv 0)))) offM nopM)
noncomputable def C_check_hall : List D → M D := bodyM 1 m_check_hall
theorem g_check_hall {P : Program} {w : World} {K : PySem.W.Frag} {mg : Str → Option Value} {base : Heap} {f : Addr} {fd : FuncData} (F : L2.Fun K "check_hall" "check_hall" s_check_hall f fd)
    {C_Hall : Addr} (cg_Hall : mg "Hall" = some (.ref C_Hall)) (ci_Hall : CInst K C_Hall)
    (B : Bl mg) : FnG P w K mg base 1 f fd ["value"] (spF K mg 1 C_check_hall) :=
  fnG_okT F sc_check_hall rfl fun cdv A fr s H E hcd gd hr => (dss_one (ds_if (dt_not (dt_val (x_isc (dn_var 0) B.isinstance_ cg_Hall ci_Hall))) (dss_one x_off) x_ss0))
abbrev s_cases_of : Stmt := topS 37
theorem sc_cases_of : FnScope ["hall", "case"] ["hall"] (defScope s_cases_of) := ⟨rfl, rfl, rfl, by decide +kernel, rfl, by decide +kernel, by decide +kernel⟩
noncomputable def m_cases_of : MS := (retM (appA tupleD (consA (lstM (lcM [1] (r1M (consA (fldM "Hall" "cases" (getv 0)) nilM)) (setN 1) yesM (getv 1))) nilM)))
noncomputable def C_cases_of : List D → M D := bodyM 2 m_cases_of
theorem g_cases_of {P : Program} {w : World} {K : PySem.W.Frag} {mg : Str → Option Value} {base : Heap} {f : Addr} {fd : FuncData} (F : L2.Fun K "cases_of" "cases_of" s_cases_of f fd)
    (at_Hall_cases : ∀ C, mg "Hall" = some (.ref C) → Cls K C ∧ NoAttr K C "cases")
    (B : Bl mg) : FnG P w K mg base 1 f fd ["hall"] (spF K mg 1 C_cases_of) :=
  fnG_okT F sc_cases_of rfl fun cdv A fr s H E hcd gd hr => (dss_one (x_ret (x_tuple B.tuple_ (da_cons (x_lst (dl_comp (own := [("case", 1)]) rfl sc_cases_of.nd (x_r1 (da_cons (x_fld at_Hall_cases (dn_var 0)) x_nil) B.range_) (blkOk_by (by kernel_rfl)) (gs_name (i := 1) (by decide)) (fun _ _ _ _ _ => (pg_name (i := 1) sc_cases_of.nd rfl (by first | exact Or.inl rfl | exact Or.inr rfl))) (fun _ _ _ _ _ => x_ts0) (fun _ _ _ _ _ => (dn_var 1)))) x_nil))))
abbrev s_persons_of : Stmt := topS 38
theorem sc_persons_of : FnScope ["hall", "person"] ["hall"] (defScope s_persons_of) := ⟨rfl, rfl, rfl, by decide +kernel, rfl, by decide +kernel, by decide +kernel⟩
noncomputable def m_persons_of : MS := (retM (appA tupleD (consA (lstM (lcM [1] (r1M (consA (appA lenD (consA (fldM "Hall" "tellings" (getv 0)) nilM)) nilM)) (setN 1) yesM (getv 1))) nilM)))
noncomputable def C_persons_of : List D → M D := bodyM 2 m_persons_of
theorem g_persons_of {P : Program} {w : World} {K : PySem.W.Frag} {mg : Str → Option Value} {base : Heap} {f : Addr} {fd : FuncData} (F : L2.Fun K "persons_of" "persons_of" s_persons_of f fd)
    (at_Hall_tellings : ∀ C, mg "Hall" = some (.ref C) → Cls K C ∧ NoAttr K C "tellings")
    (B : Bl mg) : FnG P w K mg base 1 f fd ["hall"] (spF K mg 1 C_persons_of) :=
  fnG_okT F sc_persons_of rfl fun cdv A fr s H E hcd gd hr => (dss_one (x_ret (x_tuple B.tuple_ (da_cons (x_lst (dl_comp (own := [("person", 1)]) rfl sc_persons_of.nd (x_r1 (da_cons (x_len B.len_ (da_cons (x_fld at_Hall_tellings (dn_var 0)) x_nil)) x_nil) B.range_) (blkOk_by (by kernel_rfl)) (gs_name (i := 1) (by decide)) (fun _ _ _ _ _ => (pg_name (i := 1) sc_persons_of.nd rfl (by first | exact Or.inl rfl | exact Or.inr rfl))) (fun _ _ _ _ _ => x_ts0) (fun _ _ _ _ _ => (dn_var 1)))) x_nil))))
abbrev s_is_case : Stmt := topS 39
theorem sc_is_case : FnScope ["hall", "value"] ["hall", "value"] (defScope s_is_case) := ⟨rfl, rfl, rfl, by decide +kernel, rfl, by decide +kernel, by decide +kernel⟩
noncomputable def m_is_case : MS := (retM (callF 3 C_is_between (consA (getv 1) (consA (cM (.int 0)) (consA (bin subD (fldM "Hall" "cases" (getv 0)) (cM (.int 1))) nilM)))))
noncomputable def C_is_case : List D → M D := bodyM 2 m_is_case
theorem g_is_case {P : Program} {w : World} {K : PySem.W.Frag} {mg : Str → Option Value} {base : Heap} {f : Addr} {fd : FuncData} (F : L2.Fun K "is_case" "is_case" s_is_case f fd)
    {f_is_between : Addr} {fd_is_between : FuncData} (G_is_between : FnGD P w K mg base "is_between" f_is_between fd_is_between 2 ["value", "least", "most"] C_is_between)
    (at_Hall_cases : ∀ C, mg "Hall" = some (.ref C) → Cls K C ∧ NoAttr K C "cases") : FnG P w K mg base 3 f fd ["hall", "value"] (spF K mg 2 C_is_case) :=
  fnG_okT F sc_is_case rfl fun cdv A fr s H E hcd gd hr => (dss_one (x_ret (x_call G_is_between gd hr (by decide) (da_cons (dn_var 1) (da_cons x_int (da_cons (dn_sub (x_fld at_Hall_cases (dn_var 0)) x_int) x_nil))))))
abbrev s_check_case : Stmt := topS 40
theorem sc_check_case : FnScope ["hall", "value"] ["hall", "value"] (defScope s_check_case) := ⟨rfl, rfl, rfl, by decide +kernel, rfl, by decide +kernel, by decide +kernel⟩
noncomputable def m_check_case : MS := (ifM (notT (tst (callF 2 C_is_case (consA (getv 0) (consA (getv 1) nilM))))) offM nopM)
noncomputable def C_check_case : List D → M D := bodyM 2 m_check_case
theorem g_check_case {P : Program} {w : World} {K : PySem.W.Frag} {mg : Str → Option Value} {base : Heap} {f : Addr} {fd : FuncData} (F : L2.Fun K "check_case" "check_case" s_check_case f fd)
    {f_is_case : Addr} {fd_is_case : FuncData} (G_is_case : FnGD P w K mg base "is_case" f_is_case fd_is_case 3 ["hall", "value"] C_is_case) : FnG P w K mg base 4 f fd ["hall", "value"] (spF K mg 2 C_check_case) :=
  fnG_okT F sc_check_case rfl fun cdv A fr s H E hcd gd hr => (dss_one (ds_if (dt_not (dt_val (x_call G_is_case gd hr (by decide) (da_cons (dn_var 0) (da_cons (dn_var 1) x_nil))))) (dss_one x_off) x_ss0))
abbrev s_is_person : Stmt := topS 41
theorem sc_is_person : FnScope ["hall", "value"] ["hall", "value"] (defScope s_is_person) := ⟨rfl, rfl, rfl, by decide +kernel, rfl, by decide +kernel, by decide +kernel⟩
noncomputable def m_is_person : MS := (retM (callF 3 C_is_between (consA (getv 1) (consA (cM (.int 0)) (consA (bin subD (appA lenD (consA (fldM "Hall" "tellings" (getv 0)) nilM)) (cM (.int 1))) nilM)))))
noncomputable def C_is_person : List D → M D := bodyM 2 m_is_person
theorem g_is_person {P : Program} {w : World} {K : PySem.W.Frag} {mg : Str → Option Value} {base : Heap} {f : Addr} {fd : FuncData} (F : L2.Fun K "is_person" "is_person" s_is_person f fd)
    {f_is_between : Addr} {fd_is_between : FuncData} (G_is_between : FnGD P w K mg base "is_between" f_is_between fd_is_between 2 ["value", "least", "most"] C_is_between)
    (at_Hall_tellings : ∀ C, mg "Hall" = some (.ref C) → Cls K C ∧ NoAttr K C "tellings")
    (B : Bl mg) : FnG P w K mg base 3 f fd ["hall", "value"] (spF K mg 2 C_is_person) :=
  fnG_okT F sc_is_person rfl fun cdv A fr s H E hcd gd hr => (dss_one (x_ret (x_call G_is_between gd hr (by decide) (da_cons (dn_var 1) (da_cons x_int (da_cons (dn_sub (x_len B.len_ (da_cons (x_fld at_Hall_tellings (dn_var 0)) x_nil)) x_int) x_nil))))))
abbrev s_check_person : Stmt := topS 42
theorem sc_check_person : FnScope ["hall", "value"] ["hall", "value"] (defScope s_check_person) := ⟨rfl, rfl, rfl, by decide +kernel, rfl, by decide +kernel, by decide +kernel⟩
noncomputable def m_check_person : MS := (ifM (notT (tst (callF 2 C_is_person (consA (getv 0) (consA (getv 1) nilM))))) offM nopM)
noncomputable def C_check_person : List D → M D := bodyM 2 m_check_person
theorem g_check_person {P : Program} {w : World} {K : PySem.W.Frag} {mg : Str → Option Value} {base : Heap} {f : Addr} {fd : FuncData} (F : L2.Fun K "check_person" "check_person" s_check_person f fd)
    {f_is_person : Addr} {fd_is_person : FuncData} (G_is_person : FnGD P w K mg base "is_person" f_is_person fd_is_person 3 ["hall", "value"] C_is_person) : FnG P w K mg base 4 f fd ["hall", "value"] (spF K mg 2 C_check_person) :=
  fnG_okT F sc_check_person rfl fun cdv A fr s H E hcd gd hr => (dss_one (ds_if (dt_not (dt_val (x_call G_is_person gd hr (by decide) (da_cons (dn_var 0) (da_cons (dn_var 1) x_nil))))) (dss_one x_off) x_ss0))
abbrev s_is_lot : Stmt := topS 43
theorem sc_is_lot : FnScope ["hall", "value"] ["hall", "value"] (defScope s_is_lot) := ⟨rfl, rfl, rfl, by decide +kernel, rfl, by decide +kernel, by decide +kernel⟩
noncomputable def m_is_lot : MS := (retM (callF 2 C_is_lot_of (consA (fldM "Hall" "cases" (getv 0)) (consA (getv 1) nilM))))
noncomputable def C_is_lot : List D → M D := bodyM 2 m_is_lot
theorem g_is_lot {P : Program} {w : World} {K : PySem.W.Frag} {mg : Str → Option Value} {base : Heap} {f : Addr} {fd : FuncData} (F : L2.Fun K "is_lot" "is_lot" s_is_lot f fd)
    {f_is_lot_of : Addr} {fd_is_lot_of : FuncData} (G_is_lot_of : FnGD P w K mg base "is_lot_of" f_is_lot_of fd_is_lot_of 3 ["cases", "value"] C_is_lot_of)
    (at_Hall_cases : ∀ C, mg "Hall" = some (.ref C) → Cls K C ∧ NoAttr K C "cases") : FnG P w K mg base 4 f fd ["hall", "value"] (spF K mg 2 C_is_lot) :=
  fnG_okT F sc_is_lot rfl fun cdv A fr s H E hcd gd hr => (dss_one (x_ret (x_call G_is_lot_of gd hr (by decide) (da_cons (x_fld at_Hall_cases (dn_var 0)) (da_cons (dn_var 1) x_nil)))))
abbrev s_check_lot : Stmt := topS 44
theorem sc_check_lot : FnScope ["hall", "value"] ["hall", "value"] (defScope s_check_lot) := ⟨rfl, rfl, rfl, by decide +kernel, rfl, by decide +kernel, by decide +kernel⟩
noncomputable def m_check_lot : MS := (ifM (notT (tst (callF 2 C_is_lot (consA (getv 0) (consA (getv 1) nilM))))) offM nopM)
noncomputable def C_check_lot : List D → M D := bodyM 2 m_check_lot
theorem g_check_lot {P : Program} {w : World} {K : PySem.W.Frag} {mg : Str → Option Value} {base : Heap} {f : Addr} {fd : FuncData} (F : L2.Fun K "check_lot" "check_lot" s_check_lot f fd)
    {f_is_lot : Addr} {fd_is_lot : FuncData} (G_is_lot : FnGD P w K mg base "is_lot" f_is_lot fd_is_lot 4 ["hall", "value"] C_is_lot) : FnG P w K mg base 5 f fd ["hall", "value"] (spF K mg 2 C_check_lot) :=
  fnG_okT F sc_check_lot rfl fun cdv A fr s H E hcd gd hr => (dss_one (ds_if (dt_not (dt_val (x_call G_is_lot gd hr (by decide) (da_cons (dn_var 0) (da_cons (dn_var 1) x_nil))))) (dss_one x_off) x_ss0))
abbrev s_part_at : Stmt := topS 45
theorem sc_part_at : FnScope ["hall", "person", "case", "part"] ["hall", "person", "case"] (defScope s_part_at) := ⟨rfl, rfl, rfl, by decide +kernel, rfl, by decide +kernel, by decide +kernel⟩
noncomputable def m_part_at : MS := (retM (bin ixD (lstM (lcM [3] (itM (bin ixD (fldM "Hall" "tellings" (getv 0)) (getv 1))) (setN 3) (tst (bin inD (getv 2) (bin ixD (getv 3) (cM (.int 0))))) (getv 3))) (cM (.int 0))))
noncomputable def C_part_at : List D → M D := bodyM 4 m_part_at
theorem g_part_at {P : Program} {w : World} {K : PySem.W.Frag} {mg : Str → Option Value} {base : Heap} {f : Addr} {fd : FuncData} (F : L2.Fun K "part_at" "part_at" s_part_at f fd)
    (at_Hall_tellings : ∀ C, mg "Hall" = some (.ref C) → Cls K C ∧ NoAttr K C "tellings") : FnG P w K mg base 1 f fd ["hall", "person", "case"] (spF K mg 3 C_part_at) :=
  fnG_okT F sc_part_at rfl fun cdv A fr s H E hcd gd hr => (dss_one (x_ret (dn_sub1 (x_lst (dl_comp (own := [("part", 3)]) rfl sc_part_at.nd (x_it (dn_sub1 (x_fld at_Hall_tellings (dn_var 0)) (dn_var 1))) (blkOk_by (by kernel_rfl)) (gs_name (i := 3) (by decide)) (fun _ _ _ _ _ => (pg_name (i := 3) sc_part_at.nd rfl (by first | exact Or.inl rfl | exact Or.inr rfl))) (fun _ _ _ _ _ => (dts_one (dt_cmp (o_in hr) rs_in (dn_var 2) (dn_sub1 (dn_var 3) x_int) (by rfl)))) (fun _ _ _ _ _ => (dn_var 3)))) x_int)))
abbrev s_seen_by : Stmt := topS 46
theorem sc_seen_by : FnScope ["hall", "person", "case"] ["hall", "person", "case"] (defScope s_seen_by) := ⟨rfl, rfl, rfl, by decide +kernel, rfl, by decide +kernel, by decide +kernel⟩
noncomputable def m_seen_by : MS := (retM (bin ixD (callF 3 C_part_at (consA (getv 0) (consA (getv 1) (consA (getv 2) nilM)))) (cM (.int 0))))
noncomputable def C_seen_by : List D → M D := bodyM 3 m_seen_by
theorem g_seen_by {P : Program} {w : World} {K : PySem.W.Frag} {mg : Str → Option Value} {base : Heap} {f : Addr} {fd : FuncData} (F : L2.Fun K "seen_by" "seen_by" s_seen_by f fd)
    {f_part_at : Addr} {fd_part_at : FuncData} (G_part_at : FnGD P w K mg base "part_at" f_part_at fd_part_at 1 ["hall", "person", "case"] C_part_at) : FnG P w K mg base 2 f fd ["hall", "person", "case"] (spF K mg 3 C_seen_by) :=
  fnG_okT F sc_seen_by rfl fun cdv A fr s H E hcd gd hr => (dss_one (x_ret (dn_sub1 (x_call G_part_at gd hr (by decide) (da_cons (dn_var 0) (da_cons (dn_var 1) (da_cons (dn_var 2) x_nil)))) x_int)))
abbrev s_told_of : Stmt := topS 47
theorem sc_told_of : FnScope ["hall", "person", "case", "lot", "chances"] ["hall", "person", "case"] (defScope s_told_of) := ⟨rfl, rfl, rfl, by decide +kernel, rfl, by decide +kernel, by decide +kernel⟩
noncomputable def m_told_of : MS := (seqM (asgM (setTS [3, 4]) (callF 3 C_part_at (consA (getv 0) (consA (getv 1) (consA (getv 2) nilM)))))
    (retM (bin ixD (getv 4) (bin indexD (getv 3) (getv 2)))))
noncomputable def C_told_of : List D → M D := bodyM 5 m_told_of
theorem g_told_of {P : Program} {w : World} {K : PySem.W.Frag} {mg : Str → Option Value} {base : Heap} {f : Addr} {fd : FuncData} (F : L2.Fun K "told_of" "told_of" s_told_of f fd)
    {f_part_at : Addr} {fd_part_at : FuncData} (G_part_at : FnGD P w K mg base "part_at" f_part_at fd_part_at 1 ["hall", "person", "case"] C_part_at) : FnG P w K mg base 2 f fd ["hall", "person", "case"] (spF K mg 3 C_told_of) :=
  fnG_okT F sc_told_of rfl fun cdv A fr s H E hcd gd hr => (dss_cons (ds_asg (x_call G_part_at gd hr (by decide) (da_cons (dn_var 0) (da_cons (dn_var 1) (da_cons (dn_var 2) x_nil)))) (pg_tup rfl (pgs_cons (pg_name (i := 3) sc_told_of.nd rfl (.inl rfl)) (pgs_cons (pg_name (i := 4) sc_told_of.nd rfl (.inl rfl)) pgs_nil))) (gss_tup (is := [3, 4])))
      (dss_one (x_ret (dn_sub1 (dn_var 4) (x_index hr (dn_var 3) (dn_var 2))))))
abbrev s_seen : Stmt := topS 48
theorem sc_seen : FnScope ["hall", "person", "case"] ["hall", "person", "case"] (defScope s_seen) := ⟨rfl, rfl, rfl, by decide +kernel, rfl, by decide +kernel, by decide +kernel⟩
noncomputable def m_seen : MS := (seqM (expM (callF 1 C_check_hall (consA (getv 0) nilM)))
    (seqM (expM (callF 2 C_check_person (consA (getv 0) (consA (getv 1) nilM))))
    (seqM (expM (callF 2 C_check_case (consA (getv 0) (consA (getv 2) nilM))))
    (retM (callF 3 C_seen_by (consA (getv 0) (consA (getv 1) (consA (getv 2) nilM))))))))
noncomputable def C_seen : List D → M D := bodyM 3 m_seen
theorem g_seen {P : Program} {w : World} {K : PySem.W.Frag} {mg : Str → Option Value} {base : Heap} {f : Addr} {fd : FuncData} (F : L2.Fun K "seen" "seen" s_seen f fd)
    {f_check_hall : Addr} {fd_check_hall : FuncData} (G_check_hall : FnGD P w K mg base "check_hall" f_check_hall fd_check_hall 1 ["value"] C_check_hall)
    {f_check_person : Addr} {fd_check_person : FuncData} (G_check_person : FnGD P w K mg base "check_person" f_check_person fd_check_person 4 ["hall", "value"] C_check_person)
    {f_check_case : Addr} {fd_check_case : FuncData} (G_check_case : FnGD P w K mg base "check_case" f_check_case fd_check_case 4 ["hall", "value"] C_check_case)
    {f_seen_by : Addr} {fd_seen_by : FuncData} (G_seen_by : FnGD P w K mg base "seen_by" f_seen_by fd_seen_by 2 ["hall", "person", "case"] C_seen_by) : FnG P w K mg base 5 f fd ["hall", "person", "case"] (spF K mg 3 C_seen) :=
  fnG_okT F sc_seen rfl fun cdv A fr s H E hcd gd hr => (dss_cons (x_exp (x_call G_check_hall gd hr (by decide) (da_cons (dn_var 0) x_nil)))
      (dss_cons (x_exp (x_call G_check_person gd hr (by decide) (da_cons (dn_var 0) (da_cons (dn_var 1) x_nil))))
      (dss_cons (x_exp (x_call G_check_case gd hr (by decide) (da_cons (dn_var 0) (da_cons (dn_var 2) x_nil))))
      (dss_one (x_ret (x_call G_seen_by gd hr (by decide) (da_cons (dn_var 0) (da_cons (dn_var 1) (da_cons (dn_var 2) x_nil)))))))))
abbrev s_tied_with : Stmt := topS 50
theorem sc_tied_with : FnScope ["hall", "case", "found", "person", "other"] ["hall", "case"] (defScope s_tied_with) := ⟨rfl, rfl, rfl, by decide +kernel, rfl, by decide +kernel, by decide +kernel⟩
noncomputable def m_tied_with : MS := (seqM (setM 2 (ownM (lsM nilM)))
    (seqM (forM (itM (callF 1 C_persons_of (consA (getv 0) nilM))) (setNS 3) (extM 2 (lcM [4] (itM (callF 3 C_seen_by (consA (getv 0) (consA (getv 3) (consA (getv 1) nilM))))) (setN 4) (tst (bin neD (getv 4) (getv 1))) (tupM (consA (getv 3) (consA (getv 4) nilM))))))
    (retM (getv 2))))
noncomputable def C_tied_with : List D → M D := bodyM 5 m_tied_with
theorem g_tied_with {P : Program} {w : World} {K : PySem.W.Frag} {mg : Str → Option Value} {base : Heap} {f : Addr} {fd : FuncData} (F : L2.Fun K "tied_with" "tied_with" s_tied_with f fd)
    {f_persons_of : Addr} {fd_persons_of : FuncData} (G_persons_of : FnGD P w K mg base "persons_of" f_persons_of fd_persons_of 1 ["hall"] C_persons_of)
    {f_seen_by : Addr} {fd_seen_by : FuncData} (G_seen_by : FnGD P w K mg base "seen_by" f_seen_by fd_seen_by 2 ["hall", "person", "case"] C_seen_by) : FnG P w K mg base 3 f fd ["hall", "case"] (spF K mg 2 C_tied_with) :=
  fnG_okT F sc_tied_with rfl fun cdv A fr s H E hcd gd hr => (dss_cons (ds_set (i := 2) sc_tied_with.nd (.inl rfl) (dsl_own (x_ls x_nil)))
      (dss_cons (ds_for PassesOwn.never rfl (x_it (x_call G_persons_of gd hr (by decide) (da_cons (dn_var 0) x_nil))) (pg_name (i := 3) sc_tied_with.nd rfl (.inr rfl)) (gss_name (i := 3)) (dss_one (ds_ext (i := 2) (dl_comp (own := [("other", 4)]) rfl sc_tied_with.nd (x_it (x_call G_seen_by gd hr (by decide) (da_cons (dn_var 0) (da_cons (dn_var 3) (da_cons (dn_var 1) x_nil))))) (blkOk_by (by kernel_rfl)) (gs_name (i := 4) (by decide)) (fun _ _ _ _ _ => (pg_name (i := 4) sc_tied_with.nd rfl (by first | exact Or.inl rfl | exact Or.inr rfl))) (fun _ _ _ _ _ => (dts_one (dt_cmp (o_ne hr) rs_ne (dn_var 4) (dn_var 1) (nomark _)))) (fun _ _ _ _ _ => (x_tup (da_cons (dn_var 3) (da_cons (dn_var 4) x_nil))))))))
      (dss_one (x_ret (dn_var 2)))))
abbrev s_quotient : Stmt := topS 51
theorem sc_quotient : FnScope ["hall", "person", "case", "other"] ["hall", "person", "case", "other"] (defScope s_quotient) := ⟨rfl, rfl, rfl, by decide +kernel, rfl, by decide +kernel, by decide +kernel⟩
noncomputable def m_quotient : MS := (retM (callF 2 C_divided (consA (callF 3 C_told_of (consA (getv 0) (consA (getv 1) (consA (getv 3) nilM)))) (consA (callF 3 C_told_of (consA (getv 0) (consA (getv 1) (consA (getv 2) nilM)))) nilM))))
noncomputable def C_quotient : List D → M D := bodyM 4 m_quotient
theorem g_quotient {P : Program} {w : World} {K : PySem.W.Frag} {mg : Str → Option Value} {base : Heap} {f : Addr} {fd : FuncData} (F : L2.Fun K "quotient" "quotient" s_quotient f fd)
    {f_divided : Addr} {fd_divided : FuncData} (G_divided : FnGD P w K mg base "divided" f_divided fd_divided 2 ["one", "other"] C_divided)
    {f_told_of : Addr} {fd_told_of : FuncData} (G_told_of : FnGD P w K mg base "told_of" f_told_of fd_told_of 2 ["hall", "person", "case"] C_told_of) : FnG P w K mg base 3 f fd ["hall", "person", "case", "other"] (spF K mg 4 C_quotient) :=
  fnG_okT F sc_quotient rfl fun cdv A fr s H E hcd gd hr => (dss_one (x_ret (x_call G_divided gd hr (by decide) (da_cons (x_call G_told_of gd hr (by decide) (da_cons (dn_var 0) (da_cons (dn_var 1) (da_cons (dn_var 3) x_nil)))) (da_cons (x_call G_told_of gd hr (by decide) (da_cons (dn_var 0) (da_cons (dn_var 1) (da_cons (dn_var 2) x_nil)))) x_nil)))))
abbrev s_Tree_init : Stmt := L2.inClass (topS 52) 0
theorem sc_Tree_init : FnScope ["self", "hall", "begin", "line", "case", "person", "other", "weight"] ["self", "hall", "begin"] (defScope s_Tree_init) := ⟨rfl, rfl, rfl, by decide +kernel, rfl, by decide +kernel, by decide +kernel⟩
noncomputable def m_Tree_init : MS := (seqM (fstoM "Tree" "back" (shdM (dsfM (prsM (getv 2) (cM .non) pr0M))) (getv 0))
    (seqM (fstoM "Tree" "weights" (shdM (dsfM (prsM (getv 2) (cM (.tup [(.int 1), (.int 1)])) pr0M))) (getv 0))
    (seqM (fstoM "Tree" "odd" (cM .non) (getv 0))
    (seqM (setM 3 (ownM (lsM (consA (getv 2) nilM))))
    (whM (tst (bin neD (getv 3) (lstM (lsM nilM)))) (seqM (pop0M 4 3)
    (forM (itM (callF 2 C_tied_with (consA (getv 1) (consA (getv 4) nilM)))) (setTS [5, 6]) (seqM (setM 7 (valM (callF 2 C_times (consA (bin dgetD (fldM "Tree" "weights" (getv 0)) (getv 4)) (consA (callF 4 C_quotient (consA (getv 1) (consA (getv 5) (consA (getv 4) (consA (getv 6) nilM))))) nilM)))))
    (ifM (tst (bin dninD (getv 6) (fldM "Tree" "back" (getv 0)))) (seqM (dputM (tupM (consA (getv 4) (consA (getv 5) nilM))) (fldM "Tree" "back" (getv 0)) (getv 6))
    (seqM (dputM (getv 7) (fldM "Tree" "weights" (getv 0)) (getv 6))
    (appM 3 (getv 6)))) (ifM (andT (tst (bin isND (fldM "Tree" "odd" (getv 0)) (cM .non))) (tst (bin neD (getv 7) (bin dgetD (fldM "Tree" "weights" (getv 0)) (getv 6))))) (fstoM "Tree" "odd" (tupM (consA (getv 4) (consA (getv 5) (consA (getv 6) nilM)))) (getv 0)) nopM))))))))))
noncomputable def C_Tree_init : List D → M D := bodyM 8 m_Tree_init
theorem g_Tree_init {P : Program} {w : World} {K : PySem.W.Frag} {mg : Str → Option Value} {base : Heap} {f : Addr} {fd : FuncData} (F : L2.Fun K "__init__" "Tree.__init__" s_Tree_init f fd)
    (at_Tree_back : ∀ C, mg "Tree" = some (.ref C) → Cls K C ∧ NoAttr K C "back")
    (c_ONE : Cst K mg "ONE" (.tup [(.int 1), (.int 1)]))
    (at_Tree_weights : ∀ C, mg "Tree" = some (.ref C) → Cls K C ∧ NoAttr K C "weights")
    (at_Tree_odd : ∀ C, mg "Tree" = some (.ref C) → Cls K C ∧ NoAttr K C "odd")
    {f_tied_with : Addr} {fd_tied_with : FuncData} (G_tied_with : FnGD P w K mg base "tied_with" f_tied_with fd_tied_with 3 ["hall", "case"] C_tied_with)
    {f_times : Addr} {fd_times : FuncData} (G_times : FnGD P w K mg base "times" f_times fd_times 2 ["one", "other"] C_times)
    {f_quotient : Addr} {fd_quotient : FuncData} (G_quotient : FnGD P w K mg base "quotient" f_quotient fd_quotient 3 ["hall", "person", "case", "other"] C_quotient) : FnG P w K mg base 4 f fd ["self", "hall", "begin"] (spF K mg 3 C_Tree_init) :=
  fnG_okT F sc_Tree_init rfl fun cdv A fr s H E hcd gd hr => (dss_cons (ds_fld "Tree" at_Tree_back (x_shd (x_dsf (x_prs (dn_var 2) x_non x_pr0))) (dn_var 0))
      (dss_cons (ds_fld "Tree" at_Tree_weights (x_shd (x_dsf (x_prs (dn_var 2) (x_cst c_ONE) x_pr0))) (dn_var 0))
      (dss_cons (ds_fld "Tree" at_Tree_odd x_non (dn_var 0))
      (dss_cons (ds_set (i := 3) sc_Tree_init.nd (.inl rfl) (dsl_own (x_ls (da_cons (dn_var 2) x_nil))))
      (dss_one (ds_while PassesOwn.never (dt_cmp (o_ne hr) rs_ne (dn_var 3) (x_lst (x_ls x_nil)) (nomark _)) (dss_cons (ds_pop0 (i := 3) (j := 4) sc_Tree_init.nd (.inl rfl))
      (dss_one (ds_for PassesOwn.never rfl (x_it (x_call G_tied_with gd hr (by decide) (da_cons (dn_var 1) (da_cons (dn_var 4) x_nil)))) (pg_tup rfl (pgs_cons (pg_name (i := 5) sc_Tree_init.nd rfl (.inl rfl)) (pgs_cons (pg_name (i := 6) sc_Tree_init.nd rfl (.inl rfl)) pgs_nil))) (gss_tup (is := [5, 6])) (dss_cons (ds_set (i := 7) sc_Tree_init.nd (.inl rfl) (dsl_val (x_call G_times gd hr (by decide) (da_cons (dn_dget (un1 hr) (x_fld at_Tree_weights (dn_var 0)) (dn_var 4) (fun _ _ => rfl)) (da_cons (x_call G_quotient gd hr (by decide) (da_cons (dn_var 1) (da_cons (dn_var 5) (da_cons (dn_var 4) (da_cons (dn_var 6) x_nil))))) x_nil)))))
      (dss_one (ds_if (dt_cmp (o_dnin hr) rs_dnin (dn_var 6) (x_fld at_Tree_back (dn_var 0)) (by rfl)) (dss_cons (x_dput hr (x_tup (da_cons (dn_var 4) (da_cons (dn_var 5) x_nil))) (x_fld at_Tree_back (dn_var 0)) (dn_var 6))
      (dss_cons (x_dput hr (dn_var 7) (x_fld at_Tree_weights (dn_var 0)) (dn_var 6))
      (dss_one (ds_app (i := 3) (dn_var 6))))) (dss_one (ds_if (dt_w (dw_and (dt_cmp op_isN rs_isN (x_fld at_Tree_odd (dn_var 0)) x_non (nomark _)) (dw_and1 (dt_cmp (o_ne hr) rs_ne (dn_var 7) (dn_dget (un1 hr) (x_fld at_Tree_weights (dn_var 0)) (dn_var 6) (fun _ _ => rfl)) (nomark _))))) (dss_one (ds_fld "Tree" at_Tree_odd (x_tup (da_cons (dn_var 4) (da_cons (dn_var 5) (da_cons (dn_var 6) x_nil)))) (dn_var 0))) x_ss0))))))))))))))
abbrev s_pieces_by : Stmt := topS 53
theorem sc_pieces_by : FnScope ["hall", "found", "known", "case", "lot", "each"] ["hall"] (defScope s_pieces_by) := ⟨rfl, rfl, rfl, by decide +kernel, rfl, by decide +kernel, by decide +kernel⟩
noncomputable def m_pieces_by : MS := (seqM (parM [1, 2] (slsM (ownM (lsM nilM)) (slsM (valM (shdM newM)) sl0M)))
    (seqM (forM (itM (callF 1 C_cases_of (consA (getv 0) nilM))) (setNS 3) (ifM (tst (bin dninD (getv 3) (getv 2))) (seqM (setM 4 (valM (appA tupleD (consA (appA sortdD (consA (fldM "Tree" "back" (mkrM "Tree" 3 C_Tree_init (consA (getv 0) (consA (getv 3) nilM)))) nilM)) nilM))))
    (seqM (expM (updM (getv 2) (dcM [5] (itM (getv 4)) (setN 5) yesM (getv 5) (cM (.bl true)))))
    (appM 1 (getv 4)))) nopM))
    (retM (appA tupleD (consA (getv 1) nilM)))))
noncomputable def C_pieces_by : List D → M D := bodyM 6 m_pieces_by
theorem g_pieces_by {P : Program} {w : World} {K : PySem.W.Frag} {mg : Str → Option Value} {base : Heap} {f : Addr} {fd : FuncData} (F : L2.Fun K "pieces_by" "pieces_by" s_pieces_by f fd)
    {f_cases_of : Addr} {fd_cases_of : FuncData} (G_cases_of : FnGD P w K mg base "cases_of" f_cases_of fd_cases_of 1 ["hall"] C_cases_of)
    {C_Tree f_Tree_init : Addr} {fd_Tree_init : FuncData} (M_Tree : MkD P w K mg base "Tree" C_Tree f_Tree_init fd_Tree_init 4 ["self", "hall", "begin"] C_Tree_init)
    (at_Tree_back : ∀ C, mg "Tree" = some (.ref C) → Cls K C ∧ NoAttr K C "back")
    (B : Bl mg) : FnG P w K mg base 6 f fd ["hall"] (spF K mg 1 C_pieces_by) :=
  fnG_okT F sc_pieces_by rfl fun cdv A fr s H E hcd gd hr => (dss_cons (ds_par (i := 1) (j := 2) rfl sc_pieces_by.nd (by decide) (x_sls (dsl_own (x_ls x_nil)) (x_sls (dsl_val (x_shd x_dnew)) x_sl0)))
      (dss_cons (ds_for PassesOwn.never rfl (x_it (x_call G_cases_of gd hr (by decide) (da_cons (dn_var 0) x_nil))) (pg_name (i := 3) sc_pieces_by.nd rfl (.inl rfl)) (gss_name (i := 3)) (dss_one (ds_if (dt_cmp (o_dnin hr) rs_dnin (dn_var 3) (dn_var 2) (by rfl)) (dss_cons (ds_set (i := 4) sc_pieces_by.nd (.inl rfl) (dsl_val (x_tuple B.tuple_ (da_cons (x_sortd rfl B.sorted_ (da_cons (x_fld at_Tree_back (x_mkr M_Tree gd hr (by decide) (da_cons (dn_var 0) (da_cons (dn_var 3) x_nil)))) x_nil)) x_nil))))
      (dss_cons (x_exp (x_upd (dn_var 2) (x_dc (own := [("each", 5)]) rfl sc_pieces_by.nd (x_it (dn_var 4)) (blkOk_by (by kernel_rfl)) (gs_name (i := 5) (by decide)) (fun _ _ _ _ _ => (pg_name (i := 5) sc_pieces_by.nd rfl (by first | exact Or.inl rfl | exact Or.inr rfl))) (fun _ _ _ _ _ => x_ts0) (fun _ _ _ _ _ => (dn_var 5)) (fun _ _ _ _ _ => x_bl))))
      (dss_one (ds_app (i := 1) (dn_var 4))))) x_ss0)))
      (dss_one (x_ret (x_tuple B.tuple_ (da_cons (dn_var 1) x_nil))))))
abbrev s_pieces : Stmt := topS 54
theorem sc_pieces : FnScope ["hall"] ["hall"] (defScope s_pieces) := ⟨rfl, rfl, rfl, by decide +kernel, rfl, by decide +kernel, by decide +kernel⟩
noncomputable def m_pieces : MS := (seqM (expM (callF 1 C_check_hall (consA (getv 0) nilM)))
    (retM (callF 1 C_pieces_by (consA (getv 0) nilM))))
noncomputable def C_pieces : List D → M D := bodyM 1 m_pieces
theorem g_pieces {P : Program} {w : World} {K : PySem.W.Frag} {mg : Str → Option Value} {base : Heap} {f : Addr} {fd : FuncData} (F : L2.Fun K "pieces" "pieces" s_pieces f fd)
    {f_check_hall : Addr} {fd_check_hall : FuncData} (G_check_hall : FnGD P w K mg base "check_hall" f_check_hall fd_check_hall 1 ["value"] C_check_hall)
    {f_pieces_by : Addr} {fd_pieces_by : FuncData} (G_pieces_by : FnGD P w K mg base "pieces_by" f_pieces_by fd_pieces_by 6 ["hall"] C_pieces_by) : FnG P w K mg base 7 f fd ["hall"] (spF K mg 1 C_pieces) :=
  fnG_okT F sc_pieces rfl fun cdv A fr s H E hcd gd hr => (dss_cons (x_exp (x_call G_check_hall gd hr (by decide) (da_cons (dn_var 0) x_nil)))
      (dss_one (x_ret (x_call G_pieces_by gd hr (by decide) (da_cons (dn_var 0) x_nil)))))
abbrev s_is_within : Stmt := topS 57
theorem sc_is_within : FnScope ["lot", "other", "case"] ["lot", "other"] (defScope s_is_within) := ⟨rfl, rfl, rfl, by decide +kernel, rfl, by decide +kernel, by decide +kernel⟩
noncomputable def m_is_within : MS := (retM (appA allD (consA (lstM (lcM [2] (itM (getv 0)) (setN 2) yesM (bin inD (getv 2) (getv 1)))) nilM)))
noncomputable def C_is_within : List D → M D := bodyM 3 m_is_within
theorem g_is_within {P : Program} {w : World} {K : PySem.W.Frag} {mg : Str → Option Value} {base : Heap} {f : Addr} {fd : FuncData} (F : L2.Fun K "is_within" "is_within" s_is_within f fd)
    (B : Bl mg) : FnG P w K mg base 1 f fd ["lot", "other"] (spF K mg 2 C_is_within) :=
  fnG_okT F sc_is_within rfl fun cdv A fr s H E hcd gd hr => (dss_one (x_ret (x_all rfl B.all_ (da_cons (x_lst (dl_comp (own := [("case", 2)]) rfl sc_is_within.nd (x_it (dn_var 0)) (blkOk_by (by kernel_rfl)) (gs_name (i := 2) (by decide)) (fun _ _ _ _ _ => (pg_name (i := 2) sc_is_within.nd rfl (by first | exact Or.inl rfl | exact Or.inr rfl))) (fun _ _ _ _ _ => x_ts0) (fun _ _ _ _ _ => (dn_cmp (o_in hr) rs_in (dn_var 2) (dn_var 1) (by rfl))))) x_nil))))
abbrev s_knows_by : Stmt := topS 58
theorem sc_knows_by : FnScope ["hall", "person", "lot", "case"] ["hall", "person", "lot"] (defScope s_knows_by) := ⟨rfl, rfl, rfl, by decide +kernel, rfl, by decide +kernel, by decide +kernel⟩
noncomputable def m_knows_by : MS := (retM (appA tupleD (consA (lstM (lcM [3] (itM (callF 1 C_cases_of (consA (getv 0) nilM))) (setN 3) (tst (callF 2 C_is_within (consA (callF 3 C_seen_by (consA (getv 0) (consA (getv 1) (consA (getv 3) nilM)))) (consA (getv 2) nilM)))) (getv 3))) nilM)))
noncomputable def C_knows_by : List D → M D := bodyM 4 m_knows_by
theorem g_knows_by {P : Program} {w : World} {K : PySem.W.Frag} {mg : Str → Option Value} {base : Heap} {f : Addr} {fd : FuncData} (F : L2.Fun K "knows_by" "knows_by" s_knows_by f fd)
    {f_cases_of : Addr} {fd_cases_of : FuncData} (G_cases_of : FnGD P w K mg base "cases_of" f_cases_of fd_cases_of 1 ["hall"] C_cases_of)
    {f_is_within : Addr} {fd_is_within : FuncData} (G_is_within : FnGD P w K mg base "is_within" f_is_within fd_is_within 1 ["lot", "other"] C_is_within)
    {f_seen_by : Addr} {fd_seen_by : FuncData} (G_seen_by : FnGD P w K mg base "seen_by" f_seen_by fd_seen_by 2 ["hall", "person", "case"] C_seen_by)
    (B : Bl mg) : FnG P w K mg base 3 f fd ["hall", "person", "lot"] (spF K mg 3 C_knows_by) :=
  fnG_okT F sc_knows_by rfl fun cdv A fr s H E hcd gd hr => (dss_one (x_ret (x_tuple B.tuple_ (da_cons (x_lst (dl_comp (own := [("case", 3)]) rfl sc_knows_by.nd (x_it (x_call G_cases_of gd hr (by decide) (da_cons (dn_var 0) x_nil))) (blkOk_by (by kernel_rfl)) (gs_name (i := 3) (by decide)) (fun _ _ _ _ _ => (pg_name (i := 3) sc_knows_by.nd rfl (by first | exact Or.inl rfl | exact Or.inr rfl))) (fun _ _ _ _ _ => (dts_one (dt_val (x_call G_is_within gd hr (by decide) (da_cons (x_call G_seen_by gd hr (by decide) (da_cons (dn_var 0) (da_cons (dn_var 1) (da_cons (dn_var 3) x_nil)))) (da_cons (dn_var 2) x_nil)))))) (fun _ _ _ _ _ => (dn_var 3)))) x_nil))))
abbrev s_all_know_once : Stmt := topS 59
theorem sc_all_know_once : FnScope ["hall", "lot", "told", "person", "case", "some"] ["hall", "lot"] (defScope s_all_know_once) := ⟨rfl, rfl, rfl, by decide +kernel, rfl, by decide +kernel, by decide +kernel⟩
noncomputable def m_all_know_once : MS := (seqM (setM 2 (ownM (lcM [3] (itM (callF 1 C_persons_of (consA (getv 0) nilM))) (setN 3) yesM (callF 3 C_knows_by (consA (getv 0) (consA (getv 3) (consA (getv 1) nilM)))))))
    (retM (appA tupleD (consA (lstM (lcM [4] (itM (callF 1 C_cases_of (consA (getv 0) nilM))) (setN 4) (tst (appA allD (consA (lstM (lcM [5] (itM (getv 2)) (setN 5) yesM (bin inD (getv 4) (getv 5)))) nilM))) (getv 4))) nilM))))
noncomputable def C_all_know_once : List D → M D := bodyM 6 m_all_know_once
theorem g_all_know_once {P : Program} {w : World} {K : PySem.W.Frag} {mg : Str → Option Value} {base : Heap} {f : Addr} {fd : FuncData} (F : L2.Fun K "all_know_once" "all_know_once" s_all_know_once f fd)
    {f_persons_of : Addr} {fd_persons_of : FuncData} (G_persons_of : FnGD P w K mg base "persons_of" f_persons_of fd_persons_of 1 ["hall"] C_persons_of)
    {f_knows_by : Addr} {fd_knows_by : FuncData} (G_knows_by : FnGD P w K mg base "knows_by" f_knows_by fd_knows_by 3 ["hall", "person", "lot"] C_knows_by)
    {f_cases_of : Addr} {fd_cases_of : FuncData} (G_cases_of : FnGD P w K mg base "cases_of" f_cases_of fd_cases_of 1 ["hall"] C_cases_of)
    (B : Bl mg) : FnG P w K mg base 4 f fd ["hall", "lot"] (spF K mg 2 C_all_know_once) :=
  fnG_okT F sc_all_know_once rfl fun cdv A fr s H E hcd gd hr => (dss_cons (ds_set (i := 2) sc_all_know_once.nd (.inr rfl) (dsl_own (dl_comp (own := [("person", 3)]) rfl sc_all_know_once.nd (x_it (x_call G_persons_of gd hr (by decide) (da_cons (dn_var 0) x_nil))) (blkOk_by (by kernel_rfl)) (gs_name (i := 3) (by decide)) (fun _ _ _ _ _ => (pg_name (i := 3) sc_all_know_once.nd rfl (by first | exact Or.inl rfl | exact Or.inr rfl))) (fun _ _ _ _ _ => x_ts0) (fun _ _ _ _ _ => (x_call G_knows_by gd hr (by decide) (da_cons (dn_var 0) (da_cons (dn_var 3) (da_cons (dn_var 1) x_nil))))))))
      (dss_one (x_ret (x_tuple B.tuple_ (da_cons (x_lst (dl_comp (own := [("case", 4)]) rfl sc_all_know_once.nd (x_it (x_call G_cases_of gd hr (by decide) (da_cons (dn_var 0) x_nil))) (blkOk_by (by kernel_rfl)) (gs_name (i := 4) (by decide)) (fun _ _ _ _ _ => (pg_name (i := 4) sc_all_know_once.nd rfl (by first | exact Or.inl rfl | exact Or.inr rfl))) (fun _ _ _ _ _ => (dts_one (dt_val (x_all rfl B.all_ (da_cons (x_lst (dl_comp (own := [("some", 5)]) rfl sc_all_know_once.nd (x_it (dn_var 2)) (blkOk_by (by kernel_rfl)) (gs_name (i := 5) (by decide)) (fun _ _ _ _ _ => (pg_name (i := 5) sc_all_know_once.nd rfl (by first | exact Or.inl rfl | exact Or.inr rfl))) (fun _ _ _ _ _ => x_ts0) (fun _ _ _ _ _ => (dn_cmp (o_in hr) rs_in (dn_var 4) (dn_var 5) (by rfl))))) x_nil))))) (fun _ _ _ _ _ => (dn_var 4)))) x_nil)))))
abbrev s_all_know_by : Stmt := topS 60
theorem sc_all_know_by : FnScope ["hall", "lot", "times", "found", "turn"] ["hall", "lot", "times"] (defScope s_all_know_by) := ⟨rfl, rfl, rfl, by decide +kernel, rfl, by decide +kernel, by decide +kernel⟩
noncomputable def m_all_know_by : MS := (seqM (setM 3 (valM (getv 1)))
    (seqM (forR (r1M (consA (getv 2) nilM)) (setNS 4) (setM 3 (valM (callF 2 C_all_know_once (consA (getv 0) (consA (getv 3) nilM))))))
    (retM (getv 3))))
noncomputable def C_all_know_by : List D → M D := bodyM 5 m_all_know_by
theorem g_all_know_by {P : Program} {w : World} {K : PySem.W.Frag} {mg : Str → Option Value} {base : Heap} {f : Addr} {fd : FuncData} (F : L2.Fun K "all_know_by" "all_know_by" s_all_know_by f fd)
    (B : Bl mg)
    {f_all_know_once : Addr} {fd_all_know_once : FuncData} (G_all_know_once : FnGD P w K mg base "all_know_once" f_all_know_once fd_all_know_once 4 ["hall", "lot"] C_all_know_once) : FnG P w K mg base 5 f fd ["hall", "lot", "times"] (spF K mg 3 C_all_know_by) :=
  fnG_okT F sc_all_know_by rfl fun cdv A fr s H E hcd gd hr => (dss_cons (ds_set (i := 3) sc_all_know_by.nd (.inl rfl) (dsl_val (dn_var 1)))
      (dss_cons (ds_forR PassesOwn.never rfl (x_ir1 (da_cons (dn_var 2) x_nil) B.range_) (pg_name (i := 4) sc_all_know_by.nd rfl (.inl rfl)) (gss_name (i := 4)) (dss_one (ds_set (i := 3) sc_all_know_by.nd (.inl rfl) (dsl_val (x_call G_all_know_once gd hr (by decide) (da_cons (dn_var 0) (da_cons (dn_var 3) x_nil)))))))
      (dss_one (x_ret (dn_var 3)))))
abbrev s_for_ever_by : Stmt := topS 61
theorem sc_for_ever_by : FnScope ["hall", "lot", "piece", "case"] ["hall", "lot"] (defScope s_for_ever_by) := ⟨rfl, rfl, rfl, by decide +kernel, rfl, by decide +kernel, by decide +kernel⟩
noncomputable def m_for_ever_by : MS := (retM (appA tupleD (consA (appA sortedD (consA (lstM (lc2M [2, 3] [3] (itM (callF 1 C_pieces_by (consA (getv 0) nilM))) (setN 2) (tst (callF 2 C_is_within (consA (getv 2) (consA (getv 1) nilM)))) (itM (getv 2)) (setN 3) yesM (getv 3))) nilM)) nilM)))
noncomputable def C_for_ever_by : List D → M D := bodyM 4 m_for_ever_by
theorem g_for_ever_by {P : Program} {w : World} {K : PySem.W.Frag} {mg : Str → Option Value} {base : Heap} {f : Addr} {fd : FuncData} (F : L2.Fun K "for_ever_by" "for_ever_by" s_for_ever_by f fd)
    {f_pieces_by : Addr} {fd_pieces_by : FuncData} (G_pieces_by : FnGD P w K mg base "pieces_by" f_pieces_by fd_pieces_by 6 ["hall"] C_pieces_by)
    {f_is_within : Addr} {fd_is_within : FuncData} (G_is_within : FnGD P w K mg base "is_within" f_is_within fd_is_within 1 ["lot", "other"] C_is_within)
    (B : Bl mg) : FnG P w K mg base 7 f fd ["hall", "lot"] (spF K mg 2 C_for_ever_by) :=
  fnG_okT F sc_for_ever_by rfl fun cdv A fr s H E hcd gd hr => (dss_one (x_ret (x_tuple B.tuple_ (da_cons (x_sorted B.sorted_ (da_cons (x_lst (dl_comp2 (own := [("piece", 2), ("case", 3)]) (vs1 := [3]) rfl sc_for_ever_by.nd (x_it (x_call G_pieces_by gd hr (by decide) (da_cons (dn_var 0) x_nil))) (blkOk_by (by kernel_rfl)) (by decide) (gs_name (i := 2) (by decide)) (gs_name (i := 3) (by decide)) (fun _ _ _ _ _ => (pg_name (i := 2) sc_for_ever_by.nd rfl (by first | exact Or.inl rfl | exact Or.inr rfl))) (fun _ _ _ _ _ => (dts_one (dt_val (x_call G_is_within gd hr (by decide) (da_cons (dn_var 2) (da_cons (dn_var 1) x_nil)))))) (fun _ _ _ _ _ => (x_it (dn_var 2))) (fun _ _ _ _ _ => (pg_name (i := 3) sc_for_ever_by.nd rfl (by first | exact Or.inl rfl | exact Or.inr rfl))) (fun _ _ _ _ _ => x_ts0) (fun _ _ _ _ _ => (dn_var 3)))) x_nil)) x_nil))))
abbrev s_depth_by : Stmt := topS 62
theorem sc_depth_by : FnScope ["hall", "lot", "case", "found", "known"] ["hall", "lot", "case"] (defScope s_depth_by) := ⟨rfl, rfl, rfl, by decide +kernel, rfl, by decide +kernel, by decide +kernel⟩
noncomputable def m_depth_by : MS := (seqM (ifM (tst (bin inD (getv 2) (callF 2 C_for_ever_by (consA (getv 0) (consA (getv 1) nilM))))) (retM (cM .non)) nopM)
    (seqM (parM [3, 4] (slsM (valM (cM (.int 0))) (slsM (valM (callF 2 C_all_know_once (consA (getv 0) (consA (getv 1) nilM)))) sl0M)))
    (seqM (whM (tst (bin inD (getv 2) (getv 4))) (parM [3, 4] (slsM (valM (bin addD (getv 3) (cM (.int 1)))) (slsM (valM (callF 2 C_all_know_once (consA (getv 0) (consA (getv 4) nilM)))) sl0M))))
    (retM (getv 3)))))
noncomputable def C_depth_by : List D → M D := bodyM 5 m_depth_by
theorem g_depth_by {P : Program} {w : World} {K : PySem.W.Frag} {mg : Str → Option Value} {base : Heap} {f : Addr} {fd : FuncData} (F : L2.Fun K "depth_by" "depth_by" s_depth_by f fd)
    {f_for_ever_by : Addr} {fd_for_ever_by : FuncData} (G_for_ever_by : FnGD P w K mg base "for_ever_by" f_for_ever_by fd_for_ever_by 7 ["hall", "lot"] C_for_ever_by)
    {f_all_know_once : Addr} {fd_all_know_once : FuncData} (G_all_know_once : FnGD P w K mg base "all_know_once" f_all_know_once fd_all_know_once 4 ["hall", "lot"] C_all_know_once) : FnG P w K mg base 8 f fd ["hall", "lot", "case"] (spF K mg 3 C_depth_by) :=
  fnG_okT F sc_depth_by rfl fun cdv A fr s H E hcd gd hr => (dss_cons (ds_if (dt_cmp (o_in hr) rs_in (dn_var 2) (x_call G_for_ever_by gd hr (by decide) (da_cons (dn_var 0) (da_cons (dn_var 1) x_nil))) (by rfl)) (dss_one (x_ret x_non)) x_ss0)
      (dss_cons (ds_par (i := 3) (j := 4) rfl sc_depth_by.nd (by decide) (x_sls (dsl_val x_int) (x_sls (dsl_val (x_call G_all_know_once gd hr (by decide) (da_cons (dn_var 0) (da_cons (dn_var 1) x_nil)))) x_sl0)))
      (dss_cons (ds_while PassesOwn.never (dt_cmp (o_in hr) rs_in (dn_var 2) (dn_var 4) (by rfl)) (dss_one (ds_par (i := 3) (j := 4) rfl sc_depth_by.nd (by decide) (x_sls (dsl_val (dn_add (dn_var 3) x_int)) (x_sls (dsl_val (x_call G_all_know_once gd hr (by decide) (da_cons (dn_var 0) (da_cons (dn_var 4) x_nil)))) x_sl0)))))
      (dss_one (x_ret (dn_var 3))))))
abbrev s_pooled_by : Stmt := topS 63
theorem sc_pooled_by : FnScope ["hall", "found", "case", "told", "person"] ["hall"] (defScope s_pooled_by) := ⟨rfl, rfl, rfl, by decide +kernel, rfl, by decide +kernel, by decide +kernel⟩
noncomputable def m_pooled_by : MS := (seqM (setM 1 (valM (shdM newM)))
    (seqM (forM (itM (callF 1 C_cases_of (consA (getv 0) nilM))) (setNS 2) (seqM (setM 3 (valM (appA tupleD (consA (lstM (lcM [4] (itM (callF 1 C_persons_of (consA (getv 0) nilM))) (setN 4) yesM (callF 3 C_seen_by (consA (getv 0) (consA (getv 4) (consA (getv 2) nilM)))))) nilM))))
    (tputM (bin addD (tgetM (getv 1) (getv 3) (tupM nilM)) (tupM (consA (getv 2) nilM))) (getv 1) (getv 3))))
    (retM (tvalsM (getv 1)))))
noncomputable def C_pooled_by : List D → M D := bodyM 5 m_pooled_by
theorem g_pooled_by {P : Program} {w : World} {K : PySem.W.Frag} {mg : Str → Option Value} {base : Heap} {f : Addr} {fd : FuncData} (F : L2.Fun K "pooled_by" "pooled_by" s_pooled_by f fd)
    {f_cases_of : Addr} {fd_cases_of : FuncData} (G_cases_of : FnGD P w K mg base "cases_of" f_cases_of fd_cases_of 1 ["hall"] C_cases_of)
    {f_persons_of : Addr} {fd_persons_of : FuncData} (G_persons_of : FnGD P w K mg base "persons_of" f_persons_of fd_persons_of 1 ["hall"] C_persons_of)
    {f_seen_by : Addr} {fd_seen_by : FuncData} (G_seen_by : FnGD P w K mg base "seen_by" f_seen_by fd_seen_by 2 ["hall", "person", "case"] C_seen_by)
    (B : Bl mg) : FnG P w K mg base 3 f fd ["hall"] (spF K mg 1 C_pooled_by) :=
  fnG_okT F sc_pooled_by rfl fun cdv A fr s H E hcd gd hr => (dss_cons (ds_set (i := 1) sc_pooled_by.nd (.inl rfl) (dsl_val (x_shd x_dnew)))
      (dss_cons (ds_for PassesOwn.never rfl (x_it (x_call G_cases_of gd hr (by decide) (da_cons (dn_var 0) x_nil))) (pg_name (i := 2) sc_pooled_by.nd rfl (.inr rfl)) (gss_name (i := 2)) (dss_cons (ds_set (i := 3) sc_pooled_by.nd (.inl rfl) (dsl_val (x_tuple B.tuple_ (da_cons (x_lst (dl_comp (own := [("person", 4)]) rfl sc_pooled_by.nd (x_it (x_call G_persons_of gd hr (by decide) (da_cons (dn_var 0) x_nil))) (blkOk_by (by kernel_rfl)) (gs_name (i := 4) (by decide)) (fun _ _ _ _ _ => (pg_name (i := 4) sc_pooled_by.nd rfl (by first | exact Or.inl rfl | exact Or.inr rfl))) (fun _ _ _ _ _ => x_ts0) (fun _ _ _ _ _ => (x_call G_seen_by gd hr (by decide) (da_cons (dn_var 0) (da_cons (dn_var 4) (da_cons (dn_var 2) x_nil))))))) x_nil))))
      (dss_one (x_tput hr (dn_add (x_tget hr (dn_var 1) (dn_var 3) (x_tup x_nil) ⟨rfl, rfl, rfl, rfl⟩) (x_tup (da_cons (dn_var 2) x_nil))) (dn_var 1) (dn_var 3)))))
      (dss_one (x_ret (x_tvals rfl B.tuple_ (dn_var 1))))))
abbrev s_is_finer_by : Stmt := topS 64
theorem sc_is_finer_by : FnScope ["hall", "person", "other", "told", "case", "one", "second"] ["hall", "person", "other"] (defScope s_is_finer_by) := ⟨rfl, rfl, rfl, by decide +kernel, rfl, by decide +kernel, by decide +kernel⟩
noncomputable def m_is_finer_by : MS := (seqM (setM 3 (ownM (lcM [4] (itM (callF 1 C_cases_of (consA (getv 0) nilM))) (setN 4) yesM (tupM (consA (callF 3 C_seen_by (consA (getv 0) (consA (getv 1) (consA (getv 4) nilM)))) (consA (callF 3 C_seen_by (consA (getv 0) (consA (getv 2) (consA (getv 4) nilM)))) nilM))))))
    (retM (appA allD (consA (lstM (lcM [5, 6] (itM (getv 3)) (setT [5, 6]) yesM (callF 2 C_is_within (consA (getv 5) (consA (getv 6) nilM))))) nilM))))
noncomputable def C_is_finer_by : List D → M D := bodyM 7 m_is_finer_by
theorem g_is_finer_by {P : Program} {w : World} {K : PySem.W.Frag} {mg : Str → Option Value} {base : Heap} {f : Addr} {fd : FuncData} (F : L2.Fun K "is_finer_by" "is_finer_by" s_is_finer_by f fd)
    {f_cases_of : Addr} {fd_cases_of : FuncData} (G_cases_of : FnGD P w K mg base "cases_of" f_cases_of fd_cases_of 1 ["hall"] C_cases_of)
    {f_seen_by : Addr} {fd_seen_by : FuncData} (G_seen_by : FnGD P w K mg base "seen_by" f_seen_by fd_seen_by 2 ["hall", "person", "case"] C_seen_by)
    {f_is_within : Addr} {fd_is_within : FuncData} (G_is_within : FnGD P w K mg base "is_within" f_is_within fd_is_within 1 ["lot", "other"] C_is_within)
    (B : Bl mg) : FnG P w K mg base 3 f fd ["hall", "person", "other"] (spF K mg 3 C_is_finer_by) :=
  fnG_okT F sc_is_finer_by rfl fun cdv A fr s H E hcd gd hr => (dss_cons (ds_setLc (i := 3) (own := [("case", 4)]) rfl sc_is_finer_by.nd rfl rfl (x_it (x_call G_cases_of gd hr (by decide) (da_cons (dn_var 0) x_nil))) (blkOk_by (by kernel_rfl)) (gs_name (i := 4) (by decide)) (fun _ _ _ _ _ => (pg_name (i := 4) sc_is_finer_by.nd rfl (by first | exact Or.inl rfl | exact Or.inr rfl))) (fun _ _ _ _ _ => x_ts0) (fun _ _ _ _ _ => (x_tup (da_cons (x_call G_seen_by gd hr (by decide) (da_cons (dn_var 0) (da_cons (dn_var 1) (da_cons (dn_var 4) x_nil)))) (da_cons (x_call G_seen_by gd hr (by decide) (da_cons (dn_var 0) (da_cons (dn_var 2) (da_cons (dn_var 4) x_nil)))) x_nil)))))
      (dss_one (x_ret (x_all rfl B.all_ (da_cons (x_lst (dl_comp (own := [("one", 5), ("second", 6)]) rfl sc_is_finer_by.nd (x_it (dn_var 3)) (blkOk_by (by kernel_rfl)) (gs_tup (is := [5, 6]) (by decide)) (fun _ _ _ _ _ => (pg_tup rfl (pgs_cons (pg_name (i := 5) sc_is_finer_by.nd rfl (by first | exact Or.inl rfl | exact Or.inr rfl)) (pgs_cons (pg_name (i := 6) sc_is_finer_by.nd rfl (by first | exact Or.inl rfl | exact Or.inr rfl)) pgs_nil)))) (fun _ _ _ _ _ => x_ts0) (fun _ _ _ _ _ => (x_call G_is_within gd hr (by decide) (da_cons (dn_var 5) (da_cons (dn_var 6) x_nil)))))) x_nil)))))
abbrev s_is_times : Stmt := topS 65
theorem sc_is_times : FnScope ["value"] ["value"] (defScope s_is_times) := ⟨rfl, rfl, rfl, by decide +kernel, rfl, by decide +kernel, by decide +kernel⟩
noncomputable def m_is_times : MS := (retM (callF 3 C_is_between (consA (getv 0) (consA (cM (.int 0)) (consA (cM (.int 9)) nilM)))))
noncomputable def C_is_times : List D → M D := bodyM 1 m_is_times
theorem g_is_times {P : Program} {w : World} {K : PySem.W.Frag} {mg : Str → Option Value} {base : Heap} {f : Addr} {fd : FuncData} (F : L2.Fun K "is_times" "is_times" s_is_times f fd)
    {f_is_between : Addr} {fd_is_between : FuncData} (G_is_between : FnGD P w K mg base "is_between" f_is_between fd_is_between 2 ["value", "least", "most"] C_is_between)
    (c_MOST_TIMES : Cst K mg "MOST_TIMES" (.int 9)) : FnG P w K mg base 3 f fd ["value"] (spF K mg 1 C_is_times) :=
  fnG_okT F sc_is_times rfl fun cdv A fr s H E hcd gd hr => (dss_one (x_ret (x_call G_is_between gd hr (by decide) (da_cons (dn_var 0) (da_cons x_int (da_cons (x_cst c_MOST_TIMES) x_nil))))))
abbrev s_check_known : Stmt := topS 66
theorem sc_check_known : FnScope ["hall", "lot"] ["hall", "lot"] (defScope s_check_known) := ⟨rfl, rfl, rfl, by decide +kernel, rfl, by decide +kernel, by decide +kernel⟩
noncomputable def m_check_known : MS := (seqM (expM (callF 1 C_check_hall (consA (getv 0) nilM)))
    (expM (callF 2 C_check_lot (consA (getv 0) (consA (getv 1) nilM)))))
noncomputable def C_check_known : List D → M D := bodyM 2 m_check_known
theorem g_check_known {P : Program} {w : World} {K : PySem.W.Frag} {mg : Str → Option Value} {base : Heap} {f : Addr} {fd : FuncData} (F : L2.Fun K "check_known" "check_known" s_check_known f fd)
    {f_check_hall : Addr} {fd_check_hall : FuncData} (G_check_hall : FnGD P w K mg base "check_hall" f_check_hall fd_check_hall 1 ["value"] C_check_hall)
    {f_check_lot : Addr} {fd_check_lot : FuncData} (G_check_lot : FnGD P w K mg base "check_lot" f_check_lot fd_check_lot 5 ["hall", "value"] C_check_lot) : FnG P w K mg base 6 f fd ["hall", "lot"] (spF K mg 2 C_check_known) :=
  fnG_okT F sc_check_known rfl fun cdv A fr s H E hcd gd hr => (dss_cons (x_exp (x_call G_check_hall gd hr (by decide) (da_cons (dn_var 0) x_nil)))
      (dss_one (x_exp (x_call G_check_lot gd hr (by decide) (da_cons (dn_var 0) (da_cons (dn_var 1) x_nil))))))
abbrev s_knows : Stmt := topS 67
theorem sc_knows : FnScope ["hall", "person", "lot"] ["hall", "person", "lot"] (defScope s_knows) := ⟨rfl, rfl, rfl, by decide +kernel, rfl, by decide +kernel, by decide +kernel⟩
noncomputable def m_knows : MS := (seqM (expM (callF 1 C_check_hall (consA (getv 0) nilM)))
    (seqM (expM (callF 2 C_check_person (consA (getv 0) (consA (getv 1) nilM))))
    (seqM (expM (callF 2 C_check_lot (consA (getv 0) (consA (getv 2) nilM))))
    (retM (callF 3 C_knows_by (consA (getv 0) (consA (getv 1) (consA (getv 2) nilM))))))))
noncomputable def C_knows : List D → M D := bodyM 3 m_knows
theorem g_knows {P : Program} {w : World} {K : PySem.W.Frag} {mg : Str → Option Value} {base : Heap} {f : Addr} {fd : FuncData} (F : L2.Fun K "knows" "knows" s_knows f fd)
    {f_check_hall : Addr} {fd_check_hall : FuncData} (G_check_hall : FnGD P w K mg base "check_hall" f_check_hall fd_check_hall 1 ["value"] C_check_hall)
    {f_check_person : Addr} {fd_check_person : FuncData} (G_check_person : FnGD P w K mg base "check_person" f_check_person fd_check_person 4 ["hall", "value"] C_check_person)
    {f_check_lot : Addr} {fd_check_lot : FuncData} (G_check_lot : FnGD P w K mg base "check_lot" f_check_lot fd_check_lot 5 ["hall", "value"] C_check_lot)
    {f_knows_by : Addr} {fd_knows_by : FuncData} (G_knows_by : FnGD P w K mg base "knows_by" f_knows_by fd_knows_by 3 ["hall", "person", "lot"] C_knows_by) : FnG P w K mg base 6 f fd ["hall", "person", "lot"] (spF K mg 3 C_knows) :=
  fnG_okT F sc_knows rfl fun cdv A fr s H E hcd gd hr => (dss_cons (x_exp (x_call G_check_hall gd hr (by decide) (da_cons (dn_var 0) x_nil)))
      (dss_cons (x_exp (x_call G_check_person gd hr (by decide) (da_cons (dn_var 0) (da_cons (dn_var 1) x_nil))))
      (dss_cons (x_exp (x_call G_check_lot gd hr (by decide) (da_cons (dn_var 0) (da_cons (dn_var 2) x_nil))))
      (dss_one (x_ret (x_call G_knows_by gd hr (by decide) (da_cons (dn_var 0) (da_cons (dn_var 1) (da_cons (dn_var 2) x_nil)))))))))
abbrev s_all_know : Stmt := topS 68
theorem sc_all_know : FnScope ["hall", "lot", "times"] ["hall", "lot", "times"] (defScope s_all_know) := ⟨rfl, rfl, rfl, by decide +kernel, rfl, by decide +kernel, by decide +kernel⟩
noncomputable def m_all_know : MS := (seqM (expM (callF 2 C_check_known (consA (getv 0) (consA (getv 1) nilM))))
    (seqM (ifM (notT (tst (callF 1 C_is_times (consA (getv 2) nilM)))) offM nopM)
    (retM (callF 3 C_all_know_by (consA (getv 0) (consA (getv 1) (consA (getv 2) nilM)))))))
noncomputable def C_all_know : List D → M D := bodyM 3 m_all_know
theorem g_all_know {P : Program} {w : World} {K : PySem.W.Frag} {mg : Str → Option Value} {base : Heap} {f : Addr} {fd : FuncData} (F : L2.Fun K "all_know" "all_know" s_all_know f fd)
    {f_check_known : Addr} {fd_check_known : FuncData} (G_check_known : FnGD P w K mg base "check_known" f_check_known fd_check_known 6 ["hall", "lot"] C_check_known)
    {f_is_times : Addr} {fd_is_times : FuncData} (G_is_times : FnGD P w K mg base "is_times" f_is_times fd_is_times 3 ["value"] C_is_times)
    {f_all_know_by : Addr} {fd_all_know_by : FuncData} (G_all_know_by : FnGD P w K mg base "all_know_by" f_all_know_by fd_all_know_by 5 ["hall", "lot", "times"] C_all_know_by) : FnG P w K mg base 7 f fd ["hall", "lot", "times"] (spF K mg 3 C_all_know) :=
  fnG_okT F sc_all_know rfl fun cdv A fr s H E hcd gd hr => (dss_cons (x_exp (x_call G_check_known gd hr (by decide) (da_cons (dn_var 0) (da_cons (dn_var 1) x_nil))))
      (dss_cons (ds_if (dt_not (dt_val (x_call G_is_times gd hr (by decide) (da_cons (dn_var 2) x_nil)))) (dss_one x_off) x_ss0)
      (dss_one (x_ret (x_call G_all_know_by gd hr (by decide) (da_cons (dn_var 0) (da_cons (dn_var 1) (da_cons (dn_var 2) x_nil))))))))
abbrev s_for_ever : Stmt := topS 69
theorem sc_for_ever : FnScope ["hall", "lot"] ["hall", "lot"] (defScope s_for_ever) := ⟨rfl, rfl, rfl, by decide +kernel, rfl, by decide +kernel, by decide +kernel⟩
noncomputable def m_for_ever : MS := (seqM (expM (callF 2 C_check_known (consA (getv 0) (consA (getv 1) nilM))))
    (retM (callF 2 C_for_ever_by (consA (getv 0) (consA (getv 1) nilM)))))
noncomputable def C_for_ever : List D → M D := bodyM 2 m_for_ever
theorem g_for_ever {P : Program} {w : World} {K : PySem.W.Frag} {mg : Str → Option Value} {base : Heap} {f : Addr} {fd : FuncData} (F : L2.Fun K "for_ever" "for_ever" s_for_ever f fd)
    {f_check_known : Addr} {fd_check_known : FuncData} (G_check_known : FnGD P w K mg base "check_known" f_check_known fd_check_known 6 ["hall", "lot"] C_check_known)
    {f_for_ever_by : Addr} {fd_for_ever_by : FuncData} (G_for_ever_by : FnGD P w K mg base "for_ever_by" f_for_ever_by fd_for_ever_by 7 ["hall", "lot"] C_for_ever_by) : FnG P w K mg base 8 f fd ["hall", "lot"] (spF K mg 2 C_for_ever) :=
  fnG_okT F sc_for_ever rfl fun cdv A fr s H E hcd gd hr => (dss_cons (x_exp (x_call G_check_known gd hr (by decide) (da_cons (dn_var 0) (da_cons (dn_var 1) x_nil))))
      (dss_one (x_ret (x_call G_for_ever_by gd hr (by decide) (da_cons (dn_var 0) (da_cons (dn_var 1) x_nil))))))
abbrev s_depth : Stmt := topS 70
theorem sc_depth : FnScope ["hall", "lot", "case"] ["hall", "lot", "case"] (defScope s_depth) := ⟨rfl, rfl, rfl, by decide +kernel, rfl, by decide +kernel, by decide +kernel⟩
noncomputable def m_depth : MS := (seqM (expM (callF 2 C_check_known (consA (getv 0) (consA (getv 1) nilM))))
    (seqM (expM (callF 2 C_check_case (consA (getv 0) (consA (getv 2) nilM))))
    (retM (callF 3 C_depth_by (consA (getv 0) (consA (getv 1) (consA (getv 2) nilM)))))))
noncomputable def C_depth : List D → M D := bodyM 3 m_depth
theorem g_depth {P : Program} {w : World} {K : PySem.W.Frag} {mg : Str → Option Value} {base : Heap} {f : Addr} {fd : FuncData} (F : L2.Fun K "depth" "depth" s_depth f fd)
    {f_check_known : Addr} {fd_check_known : FuncData} (G_check_known : FnGD P w K mg base "check_known" f_check_known fd_check_known 6 ["hall", "lot"] C_check_known)
    {f_check_case : Addr} {fd_check_case : FuncData} (G_check_case : FnGD P w K mg base "check_case" f_check_case fd_check_case 4 ["hall", "value"] C_check_case)
    {f_depth_by : Addr} {fd_depth_by : FuncData} (G_depth_by : FnGD P w K mg base "depth_by" f_depth_by fd_depth_by 8 ["hall", "lot", "case"] C_depth_by) : FnG P w K mg base 9 f fd ["hall", "lot", "case"] (spF K mg 3 C_depth) :=
  fnG_okT F sc_depth rfl fun cdv A fr s H E hcd gd hr => (dss_cons (x_exp (x_call G_check_known gd hr (by decide) (da_cons (dn_var 0) (da_cons (dn_var 1) x_nil))))
      (dss_cons (x_exp (x_call G_check_case gd hr (by decide) (da_cons (dn_var 0) (da_cons (dn_var 2) x_nil))))
      (dss_one (x_ret (x_call G_depth_by gd hr (by decide) (da_cons (dn_var 0) (da_cons (dn_var 1) (da_cons (dn_var 2) x_nil))))))))
abbrev s_pooled : Stmt := topS 71
theorem sc_pooled : FnScope ["hall"] ["hall"] (defScope s_pooled) := ⟨rfl, rfl, rfl, by decide +kernel, rfl, by decide +kernel, by decide +kernel⟩
noncomputable def m_pooled : MS := (seqM (expM (callF 1 C_check_hall (consA (getv 0) nilM)))
    (retM (callF 1 C_pooled_by (consA (getv 0) nilM))))
noncomputable def C_pooled : List D → M D := bodyM 1 m_pooled
theorem g_pooled {P : Program} {w : World} {K : PySem.W.Frag} {mg : Str → Option Value} {base : Heap} {f : Addr} {fd : FuncData} (F : L2.Fun K "pooled" "pooled" s_pooled f fd)
    {f_check_hall : Addr} {fd_check_hall : FuncData} (G_check_hall : FnGD P w K mg base "check_hall" f_check_hall fd_check_hall 1 ["value"] C_check_hall)
    {f_pooled_by : Addr} {fd_pooled_by : FuncData} (G_pooled_by : FnGD P w K mg base "pooled_by" f_pooled_by fd_pooled_by 3 ["hall"] C_pooled_by) : FnG P w K mg base 4 f fd ["hall"] (spF K mg 1 C_pooled) :=
  fnG_okT F sc_pooled rfl fun cdv A fr s H E hcd gd hr => (dss_cons (x_exp (x_call G_check_hall gd hr (by decide) (da_cons (dn_var 0) x_nil)))
      (dss_one (x_ret (x_call G_pooled_by gd hr (by decide) (da_cons (dn_var 0) x_nil)))))
abbrev s_is_finer : Stmt := topS 72
theorem sc_is_finer : FnScope ["hall", "person", "other"] ["hall", "person", "other"] (defScope s_is_finer) := ⟨rfl, rfl, rfl, by decide +kernel, rfl, by decide +kernel, by decide +kernel⟩
noncomputable def m_is_finer : MS := (seqM (expM (callF 1 C_check_hall (consA (getv 0) nilM)))
    (seqM (expM (callF 2 C_check_person (consA (getv 0) (consA (getv 1) nilM))))
    (seqM (expM (callF 2 C_check_person (consA (getv 0) (consA (getv 2) nilM))))
    (retM (callF 3 C_is_finer_by (consA (getv 0) (consA (getv 1) (consA (getv 2) nilM))))))))
noncomputable def C_is_finer : List D → M D := bodyM 3 m_is_finer
theorem g_is_finer {P : Program} {w : World} {K : PySem.W.Frag} {mg : Str → Option Value} {base : Heap} {f : Addr} {fd : FuncData} (F : L2.Fun K "is_finer" "is_finer" s_is_finer f fd)
    {f_check_hall : Addr} {fd_check_hall : FuncData} (G_check_hall : FnGD P w K mg base "check_hall" f_check_hall fd_check_hall 1 ["value"] C_check_hall)
    {f_check_person : Addr} {fd_check_person : FuncData} (G_check_person : FnGD P w K mg base "check_person" f_check_person fd_check_person 4 ["hall", "value"] C_check_person)
    {f_is_finer_by : Addr} {fd_is_finer_by : FuncData} (G_is_finer_by : FnGD P w K mg base "is_finer_by" f_is_finer_by fd_is_finer_by 3 ["hall", "person", "other"] C_is_finer_by) : FnG P w K mg base 5 f fd ["hall", "person", "other"] (spF K mg 3 C_is_finer) :=
  fnG_okT F sc_is_finer rfl fun cdv A fr s H E hcd gd hr => (dss_cons (x_exp (x_call G_check_hall gd hr (by decide) (da_cons (dn_var 0) x_nil)))
      (dss_cons (x_exp (x_call G_check_person gd hr (by decide) (da_cons (dn_var 0) (da_cons (dn_var 1) x_nil))))
      (dss_cons (x_exp (x_call G_check_person gd hr (by decide) (da_cons (dn_var 0) (da_cons (dn_var 2) x_nil))))
      (dss_one (x_ret (x_call G_is_finer_by gd hr (by decide) (da_cons (dn_var 0) (da_cons (dn_var 1) (da_cons (dn_var 2) x_nil)))))))))
abbrev s__law_pool : Stmt := topS 74
theorem sc__law_pool : FnScope ["script", "k", "cell", "mixed", "wide", "each"] ["script", "k"] (defScope s__law_pool) := ⟨rfl, rfl, rfl, by decide +kernel, rfl, by decide +kernel, by decide +kernel⟩
noncomputable def m__law_pool : MS := (seqM (parM [2, 3] (slsM (valM (appA sumD (consA (slM (getv 0) (soM (getv 1)) (soM (bin addD (getv 1) (cM (.int 1))))) nilM))) (slsM (valM (bin addD (cM (.int 50021)) (bin mulD (cM (.int 977)) (getv 1)))) sl0M)))
    (seqM (setM 4 (valM (bin mulD (bin mulD (bin mulD (bin mulD (bin mulD (bin powD (cM (.int 10)) (cM (.int 64))) (bin powD (cM (.int 10)) (cM (.int 64)))) (bin powD (cM (.int 10)) (cM (.int 64)))) (bin powD (cM (.int 10)) (cM (.int 64)))) (bin powD (cM (.int 10)) (cM (.int 64)))) (bin powD (cM (.int 10)) (cM (.int 64))))))
    (seqM (forM (itM (slM (getv 0) noM (soM (cM (.int 12))))) (setNS 5) (setM 3 (valM (bin modD (bin addD (bin addD (bin mulD (getv 3) (cM (.int 48271))) (bin mulD (bin modD (getv 5) (cM (.int 2147483399))) (cM (.int 19)))) (cM (.int 7))) (cM (.int 2147483399))))))
    (retM (shrM (lsM (consA (ifV (orT (tst (bin ltD (getv 2) (cM (.int 0)))) (tst (bin geD (getv 2) (bin powD (cM (.int 10)) (cM (.int 18)))))) (bin modD (appA absD (consA (getv 2) nilM)) (getv 4)) (cM (.int 0))) (consA (getv 3) (consA (cM (.int 0)) nilM)))))))))
noncomputable def C__law_pool : List D → M D := bodyM 6 m__law_pool
theorem g__law_pool {P : Program} {w : World} {K : PySem.W.Frag} {mg : Str → Option Value} {base : Heap} {f : Addr} {fd : FuncData} (F : L2.Fun K "_law_pool" "_law_pool" s__law_pool f fd)
    (B : Bl mg) : FnG P w K mg base 1 f fd ["script", "k"] (spF K mg 2 C__law_pool) :=
  fnG_okT F sc__law_pool rfl fun cdv A fr s H E hcd gd hr => (dss_cons (ds_par (i := 2) (j := 3) rfl sc__law_pool.nd (by decide) (x_sls (dsl_val (x_sum rfl B.sum_ (da_cons (dn_slice (dn_var 0) (x_so (dn_var 1)) (x_so (dn_add (dn_var 1) x_int))) x_nil))) (x_sls (dsl_val (dn_add x_int (dn_mul x_int (dn_var 1)))) x_sl0)))
      (dss_cons (ds_set (i := 4) sc__law_pool.nd (.inl rfl) (dsl_val (dn_mul (dn_mul (dn_mul (dn_mul (dn_mul (dn_pow x_int x_int) (dn_pow x_int x_int)) (dn_pow x_int x_int)) (dn_pow x_int x_int)) (dn_pow x_int x_int)) (dn_pow x_int x_int))))
      (dss_cons (ds_for PassesOwn.never rfl (x_it (dn_slice (dn_var 0) x_no (x_so x_int))) (pg_name (i := 5) sc__law_pool.nd rfl (.inl rfl)) (gss_name (i := 5)) (dss_one (ds_set (i := 3) sc__law_pool.nd (.inl rfl) (dsl_val (dn_mod (dn_add (dn_add (dn_mul (dn_var 3) x_int) (dn_mul (dn_mod (dn_var 5) x_int) x_int)) x_int) x_int)))))
      (dss_one (x_ret (x_shr (x_ls (da_cons (dn_if (dt_w (dw_or (dt_cmp op_lt rs_intB (dn_var 2) x_int (nomark _)) (dw_or1 (dt_cmp op_ge rs_intB (dn_var 2) (dn_pow x_int x_int) (nomark _))))) (dn_mod (x_abs B.abs_ (da_cons (dn_var 2) x_nil)) (dn_var 4)) x_int) (da_cons (dn_var 3) (da_cons x_int x_nil))))))))))
abbrev s__law_take : Stmt := topS 75
theorem sc__law_take : FnScope ["pool", "many", "digit", "stirred"] ["pool", "many"] (defScope s__law_take) := ⟨rfl, rfl, rfl, by decide +kernel, rfl, by decide +kernel, by decide +kernel⟩
noncomputable def m__law_take : MS := (seqM (ifM (tst (bin gtD (bin ixD (getv 0) (cM (.int 0))) (cM (.int 0)))) (seqM (stoN 2 (appA divmodD (consA (bin ixD (getv 0) (cM (.int 0))) (consA (getv 1) nilM))) (getv 0) (cM (.int 0)))
    (retM (getv 2))) nopM)
    (seqM (stoM (bin addD (bin ixD (getv 0) (cM (.int 2))) (cM (.int 1))) (getv 0) (cM (.int 2)))
    (seqM (setM 3 (valM (bin modD (bin addD (bin ixD (getv 0) (cM (.int 1))) (bin mulD (cM (.int 28657)) (bin ixD (getv 0) (cM (.int 2))))) (cM (.int 2147483399)))))
    (seqM (stoM (bin modD (bin addD (bin mulD (getv 3) (bin addD (bin modD (getv 3) (cM (.int 5003))) (cM (.int 48271)))) (bin mulD (cM (.int 17)) (bin ixD (getv 0) (cM (.int 2))))) (cM (.int 2147483399))) (getv 0) (cM (.int 1)))
    (retM (bin modD (bin divD (bin ixD (getv 0) (cM (.int 1))) (cM (.int 613))) (getv 1)))))))
noncomputable def C__law_take : List D → M D := bodyM 4 m__law_take
theorem g__law_take {P : Program} {w : World} {K : PySem.W.Frag} {mg : Str → Option Value} {base : Heap} {f : Addr} {fd : FuncData} (F : L2.Fun K "_law_take" "_law_take" s__law_take f fd)
    (B : Bl mg) : FnG P w K mg base 1 f fd ["pool", "many"] (spF K mg 2 C__law_take) :=
  fnG_okT F sc__law_take rfl fun cdv A fr s H E hcd gd hr => (dss_cons (ds_if (dt_cmp op_gt rs_intB (dn_sub1 (dn_var 0) x_int) x_int (nomark _)) (dss_cons (ds_stoN (j := 2) (x_divmod B.divmod_ (da_cons (dn_sub1 (dn_var 0) x_int) (da_cons (dn_var 1) x_nil))) (dn_var 0) x_int (pg_name (i := 2) sc__law_take.nd rfl (.inl rfl)) rfl (hg := pg_tup rfl (pgs_cons (pg_sub ((dn_var 0)).pe (x_int).pe set_list (by intro _; rfl)) (pgs_cons (pg_name (i := 2) sc__law_take.nd rfl (.inl rfl)) pgs_nil))))
      (dss_one (x_ret (dn_var 2)))) x_ss0)
      (dss_cons (ds_sto (dn_add (dn_sub1 (dn_var 0) x_int) x_int) (dn_var 0) x_int)
      (dss_cons (ds_set (i := 3) sc__law_take.nd (.inl rfl) (dsl_val (dn_mod (dn_add (dn_sub1 (dn_var 0) x_int) (dn_mul x_int (dn_sub1 (dn_var 0) x_int))) x_int)))
      (dss_cons (ds_sto (dn_mod (dn_add (dn_mul (dn_var 3) (dn_add (dn_mod (dn_var 3) x_int) x_int)) (dn_mul x_int (dn_sub1 (dn_var 0) x_int))) x_int) (dn_var 0) x_int)
      (dss_one (x_ret (dn_mod (dn_div (dn_sub1 (dn_var 0) x_int) x_int) (dn_var 1))))))))
abbrev s__law_of : Stmt := topS 76
theorem sc__law_of : FnScope ["pool", "some"] ["pool", "some"] (defScope s__law_of) := ⟨rfl, rfl, rfl, by decide +kernel, rfl, by decide +kernel, by decide +kernel⟩
noncomputable def m__law_of : MS := (retM (bin ixD (getv 1) (callF 2 C__law_take (consA (getv 0) (consA (appA lenD (consA (getv 1) nilM)) nilM)))))
noncomputable def C__law_of : List D → M D := bodyM 2 m__law_of
theorem g__law_of {P : Program} {w : World} {K : PySem.W.Frag} {mg : Str → Option Value} {base : Heap} {f : Addr} {fd : FuncData} (F : L2.Fun K "_law_of" "_law_of" s__law_of f fd)
    {f__law_take : Addr} {fd__law_take : FuncData} (G__law_take : FnGD P w K mg base "_law_take" f__law_take fd__law_take 1 ["pool", "many"] C__law_take)
    (B : Bl mg) : FnG P w K mg base 2 f fd ["pool", "some"] (spF K mg 2 C__law_of) :=
  fnG_okT F sc__law_of rfl fun cdv A fr s H E hcd gd hr => (dss_one (x_ret (dn_sub1 (dn_var 1) (x_call G__law_take gd hr (by decide) (da_cons (dn_var 0) (da_cons (x_len B.len_ (da_cons (dn_var 1) x_nil)) x_nil))))))
abbrev s__law_lowest : Stmt := topS 77
theorem sc__law_lowest : FnScope ["top", "low", "one", "two"] ["top", "low"] (defScope s__law_lowest) := ⟨rfl, rfl, rfl, by decide +kernel, rfl, by decide +kernel, by decide +kernel⟩
noncomputable def m__law_lowest : MS := (seqM (parM [2, 3] (slsM (valM (getv 0)) (slsM (valM (getv 1)) sl0M)))
    (seqM (whM (tst (bin gtD (getv 3) (cM (.int 0)))) (parM [2, 3] (slsM (valM (getv 3)) (slsM (valM (bin modD (getv 2) (getv 3))) sl0M))))
    (retM (tupM (consA (bin divD (getv 0) (getv 2)) (consA (bin divD (getv 1) (getv 2)) nilM))))))
noncomputable def C__law_lowest : List D → M D := bodyM 4 m__law_lowest
theorem g__law_lowest {P : Program} {w : World} {K : PySem.W.Frag} {mg : Str → Option Value} {base : Heap} {f : Addr} {fd : FuncData} (F : L2.Fun K "_law_lowest" "_law_lowest" s__law_lowest f fd)
     : FnG P w K mg base 1 f fd ["top", "low"] (spF K mg 2 C__law_lowest) :=
  fnG_okT F sc__law_lowest rfl fun cdv A fr s H E hcd gd hr => (dss_cons (ds_par (i := 2) (j := 3) rfl sc__law_lowest.nd (by decide) (x_sls (dsl_val (dn_var 0)) (x_sls (dsl_val (dn_var 1)) x_sl0)))
      (dss_cons (ds_while PassesOwn.never (dt_cmp op_gt rs_intB (dn_var 3) x_int (nomark _)) (dss_one (ds_par (i := 2) (j := 3) rfl sc__law_lowest.nd (by decide) (x_sls (dsl_val (dn_var 3)) (x_sls (dsl_val (dn_mod (dn_var 2) (dn_var 3))) x_sl0)))))
      (dss_one (x_ret (x_tup (da_cons (dn_div (dn_var 0) (dn_var 2)) (da_cons (dn_div (dn_var 1) (dn_var 2)) x_nil)))))))
abbrev s__law_parts : Stmt := topS 78
theorem sc__law_parts : FnScope ["pool", "cases", "labels", "found", "case", "each"] ["pool", "cases"] (defScope s__law_parts) := ⟨rfl, rfl, rfl, by decide +kernel, rfl, by decide +kernel, by decide +kernel⟩
noncomputable def m__law_parts : MS := (seqM (setM 2 (ownM (lcM [4] (r1M (consA (getv 1) nilM)) (setN 4) yesM (callF 2 C__law_take (consA (getv 0) (consA (callF 2 C__law_of (consA (getv 0) (consA (lstM (lsM (consA (cM (.int 1)) (consA (cM (.int 2)) (consA (cM (.int 3)) (consA (getv 1) nilM)))))) nilM))) nilM))))))
    (seqM (setM 3 (ownM (lsM nilM)))
    (seqM (forR (r1M (consA (getv 1) nilM)) (setNS 4) (ifM (tst (bin notInD (bin ixD (getv 2) (getv 4)) (slM (getv 2) noM (soM (getv 4))))) (appM 3 (appA tupleD (consA (lstM (lcM [5] (r1M (consA (getv 1) nilM)) (setN 5) (tst (bin eqD (bin ixD (getv 2) (getv 5)) (bin ixD (getv 2) (getv 4)))) (getv 5))) nilM))) nopM))
    (retM (getv 3)))))
noncomputable def C__law_parts : List D → M D := bodyM 6 m__law_parts
theorem g__law_parts {P : Program} {w : World} {K : PySem.W.Frag} {mg : Str → Option Value} {base : Heap} {f : Addr} {fd : FuncData} (F : L2.Fun K "_law_parts" "_law_parts" s__law_parts f fd)
    (B : Bl mg)
    {f__law_take : Addr} {fd__law_take : FuncData} (G__law_take : FnGD P w K mg base "_law_take" f__law_take fd__law_take 1 ["pool", "many"] C__law_take)
    {f__law_of : Addr} {fd__law_of : FuncData} (G__law_of : FnGD P w K mg base "_law_of" f__law_of fd__law_of 2 ["pool", "some"] C__law_of) : FnG P w K mg base 3 f fd ["pool", "cases"] (spF K mg 2 C__law_parts) :=
  fnG_okT F sc__law_parts rfl fun cdv A fr s H E hcd gd hr => (dss_cons (ds_set (i := 2) sc__law_parts.nd (.inr rfl) (dsl_own (dl_comp (own := [("case", 4)]) rfl sc__law_parts.nd (x_r1 (da_cons (dn_var 1) x_nil) B.range_) (blkOk_by (by kernel_rfl)) (gs_name (i := 4) (by decide)) (fun _ _ _ _ _ => (pg_name (i := 4) sc__law_parts.nd rfl (by first | exact Or.inl rfl | exact Or.inr rfl))) (fun _ _ _ _ _ => x_ts0) (fun _ _ _ _ _ => (x_call G__law_take gd hr (by decide) (da_cons (dn_var 0) (da_cons (x_call G__law_of gd hr (by decide) (da_cons (dn_var 0) (da_cons (x_lst (x_ls (da_cons x_int (da_cons x_int (da_cons x_int (da_cons (dn_var 1) x_nil)))))) x_nil))) x_nil)))))))
      (dss_cons (ds_set (i := 3) sc__law_parts.nd (.inl rfl) (dsl_own (x_ls x_nil)))
      (dss_cons (ds_forR PassesOwn.never rfl (x_ir1 (da_cons (dn_var 1) x_nil) B.range_) (pg_name (i := 4) sc__law_parts.nd rfl (.inr rfl)) (gss_name (i := 4)) (dss_one (ds_if (dt_cmp (o_nin hr) rs_notIn (dn_sub1 (dn_var 2) (dn_var 4)) (dn_slice (dn_var 2) x_no (x_so (dn_var 4))) (by rfl)) (dss_one (ds_app (i := 3) (x_tuple B.tuple_ (da_cons (x_lst (dl_comp (own := [("each", 5)]) rfl sc__law_parts.nd (x_r1 (da_cons (dn_var 1) x_nil) B.range_) (blkOk_by (by kernel_rfl)) (gs_name (i := 5) (by decide)) (fun _ _ _ _ _ => (pg_name (i := 5) sc__law_parts.nd rfl (by first | exact Or.inl rfl | exact Or.inr rfl))) (fun _ _ _ _ _ => (dts_one (dt_cmp (o_eq hr) rs_eq (dn_sub1 (dn_var 2) (dn_var 5)) (dn_sub1 (dn_var 2) (dn_var 4)) (nomark _)))) (fun _ _ _ _ _ => (dn_var 5)))) x_nil)))) x_ss0)))
      (dss_one (x_ret (dn_var 3))))))
abbrev s__law_hall : Stmt := topS 79
theorem sc__law_hall : FnScope ["pool", "most", "odd", "cases", "weights", "tellings", "person", "parts", "lot", "some", "case", "each"] ["pool", "most", "odd"] (defScope s__law_hall) := ⟨rfl, rfl, rfl, by decide +kernel, rfl, by decide +kernel, by decide +kernel⟩
noncomputable def m__law_hall : MS := (seqM (setM 3 (valM (bin addD (cM (.int 2)) (callF 2 C__law_take (consA (getv 0) (consA (bin subD (getv 1) (cM (.int 1))) nilM))))))
    (seqM (parM [4, 5] (slsM (ownM (lcM [10] (r1M (consA (getv 3) nilM)) (setN 10) yesM (bin addD (cM (.int 1)) (callF 2 C__law_take (consA (getv 0) (consA (cM (.int 5)) nilM)))))) (slsM (ownM (lsM nilM)) sl0M)))
    (seqM (forR (r1M (consA (bin addD (cM (.int 1)) (callF 2 C__law_take (consA (getv 0) (consA (cM (.int 3)) nilM)))) nilM)) (setNS 6) (seqM (setM 7 (ownM (lsM nilM)))
    (seqM (forM (itM (callF 2 C__law_parts (consA (getv 0) (consA (getv 3) nilM)))) (setNS 8) (seqM (setM 9 (ownM (lcM [10] (itM (getv 8)) (setN 10) yesM (bin ixD (getv 4) (getv 10)))))
    (seqM (ifM (tst (bin ltD (callF 2 C__law_take (consA (getv 0) (consA (cM (.int 6)) nilM))) (getv 2))) (setM 9 (ownM (lcM [10] (itM (getv 8)) (setN 10) yesM (bin addD (cM (.int 1)) (callF 2 C__law_take (consA (getv 0) (consA (cM (.int 5)) nilM))))))) nopM)
    (appM 7 (tupM (consA (getv 8) (consA (appA tupleD (consA (lstM (lcM [11] (itM (getv 9)) (setN 11) yesM (callF 2 C__law_lowest (consA (getv 11) (consA (appA sumD (consA (getv 9) nilM)) nilM))))) nilM)) nilM)))))))
    (appM 5 (appA tupleD (consA (getv 7) nilM))))))
    (retM (dspM (prsM (cM (.str "cases")) (getv 3) (prsM (cM (.str "tellings")) (appA tupleD (consA (getv 5) nilM)) pr0M)))))))
noncomputable def C__law_hall : List D → M D := bodyM 12 m__law_hall
theorem g__law_hall {P : Program} {w : World} {K : PySem.W.Frag} {mg : Str → Option Value} {base : Heap} {f : Addr} {fd : FuncData} (F : L2.Fun K "_law_hall" "_law_hall" s__law_hall f fd)
    {f__law_take : Addr} {fd__law_take : FuncData} (G__law_take : FnGD P w K mg base "_law_take" f__law_take fd__law_take 1 ["pool", "many"] C__law_take)
    (B : Bl mg)
    {f__law_parts : Addr} {fd__law_parts : FuncData} (G__law_parts : FnGD P w K mg base "_law_parts" f__law_parts fd__law_parts 3 ["pool", "cases"] C__law_parts)
    {f__law_lowest : Addr} {fd__law_lowest : FuncData} (G__law_lowest : FnGD P w K mg base "_law_lowest" f__law_lowest fd__law_lowest 1 ["top", "low"] C__law_lowest) : FnG P w K mg base 4 f fd ["pool", "most", "odd"] (spF K mg 3 C__law_hall) :=
  fnG_okT F sc__law_hall rfl fun cdv A fr s H E hcd gd hr => (dss_cons (ds_set (i := 3) sc__law_hall.nd (.inl rfl) (dsl_val (dn_add x_int (x_call G__law_take gd hr (by decide) (da_cons (dn_var 0) (da_cons (dn_sub (dn_var 1) x_int) x_nil))))))
      (dss_cons (ds_parT (is := [4, 5]) (x_sls (dsl_own (dl_comp (own := [("case", 10)]) rfl sc__law_hall.nd (x_r1 (da_cons (dn_var 3) x_nil) B.range_) (blkOk_by (by kernel_rfl)) (gs_name (i := 10) (by decide)) (fun _ _ _ _ _ => (pg_name (i := 10) sc__law_hall.nd rfl (by first | exact Or.inl rfl | exact Or.inr rfl))) (fun _ _ _ _ _ => x_ts0) (fun _ _ _ _ _ => (dn_add x_int (x_call G__law_take gd hr (by decide) (da_cons (dn_var 0) (da_cons x_int x_nil))))))) (x_sls (dsl_own (x_ls x_nil)) x_sl0)) (pg_tup rfl (pgs_cons (pg_name (i := 4) sc__law_hall.nd rfl (.inr rfl)) (pgs_cons (pg_name (i := 5) sc__law_hall.nd rfl (.inl rfl)) pgs_nil))))
      (dss_cons (ds_forR PassesOwn.never rfl (x_ir1 (da_cons (dn_add x_int (x_call G__law_take gd hr (by decide) (da_cons (dn_var 0) (da_cons x_int x_nil)))) x_nil) B.range_) (pg_name (i := 6) sc__law_hall.nd rfl (.inl rfl)) (gss_name (i := 6)) (dss_cons (ds_set (i := 7) sc__law_hall.nd (.inl rfl) (dsl_own (x_ls x_nil)))
      (dss_cons (ds_for PassesOwn.never rfl (x_it (x_call G__law_parts gd hr (by decide) (da_cons (dn_var 0) (da_cons (dn_var 3) x_nil)))) (pg_name (i := 8) sc__law_hall.nd rfl (.inl rfl)) (gss_name (i := 8)) (dss_cons (ds_set (i := 9) sc__law_hall.nd (.inr rfl) (dsl_own (dl_comp (own := [("case", 10)]) rfl sc__law_hall.nd (x_it (dn_var 8)) (blkOk_by (by kernel_rfl)) (gs_name (i := 10) (by decide)) (fun _ _ _ _ _ => (pg_name (i := 10) sc__law_hall.nd rfl (by first | exact Or.inl rfl | exact Or.inr rfl))) (fun _ _ _ _ _ => x_ts0) (fun _ _ _ _ _ => (dn_sub1 (dn_var 4) (dn_var 10))))))
      (dss_cons (ds_if (dt_cmp op_lt rs_intB (x_call G__law_take gd hr (by decide) (da_cons (dn_var 0) (da_cons x_int x_nil))) (dn_var 2) (nomark _)) (dss_one (ds_set (i := 9) sc__law_hall.nd (.inr rfl) (dsl_own (dl_comp (own := [("case", 10)]) rfl sc__law_hall.nd (x_it (dn_var 8)) (blkOk_by (by kernel_rfl)) (gs_name (i := 10) (by decide)) (fun _ _ _ _ _ => (pg_name (i := 10) sc__law_hall.nd rfl (by first | exact Or.inl rfl | exact Or.inr rfl))) (fun _ _ _ _ _ => x_ts0) (fun _ _ _ _ _ => (dn_add x_int (x_call G__law_take gd hr (by decide) (da_cons (dn_var 0) (da_cons x_int x_nil))))))))) x_ss0)
      (dss_one (ds_app (i := 7) (x_tup (da_cons (dn_var 8) (da_cons (x_tuple B.tuple_ (da_cons (x_lst (dl_comp (own := [("each", 11)]) rfl sc__law_hall.nd (x_it (dn_var 9)) (blkOk_by (by kernel_rfl)) (gs_name (i := 11) (by decide)) (fun _ _ _ _ _ => (pg_name (i := 11) sc__law_hall.nd rfl (by first | exact Or.inl rfl | exact Or.inr rfl))) (fun _ _ _ _ _ => x_ts0) (fun _ _ _ _ _ => (x_call G__law_lowest gd hr (by decide) (da_cons (dn_var 11) (da_cons (x_sum rfl B.sum_ (da_cons (dn_var 9) x_nil)) x_nil)))))) x_nil)) x_nil))))))))
      (dss_one (ds_app (i := 5) (x_tuple B.tuple_ (da_cons (dn_var 7) x_nil)))))))
      (dss_one (x_ret (x_dsp (x_prs x_str (dn_var 3) (x_prs x_str (x_tuple B.tuple_ (da_cons (dn_var 5) x_nil)) x_pr0))))))))
abbrev s__law_made : Stmt := topS 80
theorem sc__law_made : FnScope ["d"] ["d"] (defScope s__law_made) := ⟨rfl, rfl, rfl, by decide +kernel, rfl, by decide +kernel, by decide +kernel⟩
noncomputable def m__law_made : MS := (retM (mkM "Hall" 3 C_Hall_init (consA (bin dgetD (getv 0) (cM (.str "cases"))) (consA (bin dgetD (getv 0) (cM (.str "tellings"))) nilM))))
noncomputable def C__law_made : List D → M D := bodyM 1 m__law_made
theorem g__law_made {P : Program} {w : World} {K : PySem.W.Frag} {mg : Str → Option Value} {base : Heap} {f : Addr} {fd : FuncData} (F : L2.Fun K "_law_made" "_law_made" s__law_made f fd)
    {C_Hall f_Hall_init : Addr} {fd_Hall_init : FuncData} (M_Hall : MkD P w K mg base "Hall" C_Hall f_Hall_init fd_Hall_init 11 ["self", "cases", "tellings"] C_Hall_init) : FnG P w K mg base 13 f fd ["d"] (spF K mg 1 C__law_made) :=
  fnG_okT F sc__law_made rfl fun cdv A fr s H E hcd gd hr => (dss_one (x_ret (x_make M_Hall gd hr (by decide) (da_cons (dn_dget (un1 hr) (dn_var 0) x_str (fun _ _ => rfl)) (da_cons (dn_dget (un1 hr) (dn_var 0) x_str (fun _ _ => rfl)) x_nil)))))
abbrev s__law_lot : Stmt := topS 81
theorem sc__law_lot : FnScope ["pool", "cases", "case"] ["pool", "cases"] (defScope s__law_lot) := ⟨rfl, rfl, rfl, by decide +kernel, rfl, by decide +kernel, by decide +kernel⟩
noncomputable def m__law_lot : MS := (retM (appA tupleD (consA (lstM (lcM [2] (r1M (consA (getv 1) nilM)) (setN 2) (tst (bin gtD (callF 2 C__law_take (consA (getv 0) (consA (cM (.int 3)) nilM))) (cM (.int 0)))) (getv 2))) nilM)))
noncomputable def C__law_lot : List D → M D := bodyM 3 m__law_lot
theorem g__law_lot {P : Program} {w : World} {K : PySem.W.Frag} {mg : Str → Option Value} {base : Heap} {f : Addr} {fd : FuncData} (F : L2.Fun K "_law_lot" "_law_lot" s__law_lot f fd)
    (B : Bl mg)
    {f__law_take : Addr} {fd__law_take : FuncData} (G__law_take : FnGD P w K mg base "_law_take" f__law_take fd__law_take 1 ["pool", "many"] C__law_take) : FnG P w K mg base 2 f fd ["pool", "cases"] (spF K mg 2 C__law_lot) :=
  fnG_okT F sc__law_lot rfl fun cdv A fr s H E hcd gd hr => (dss_one (x_ret (x_tuple B.tuple_ (da_cons (x_lst (dl_comp (own := [("case", 2)]) rfl sc__law_lot.nd (x_r1 (da_cons (dn_var 1) x_nil) B.range_) (blkOk_by (by kernel_rfl)) (gs_name (i := 2) (by decide)) (fun _ _ _ _ _ => (pg_name (i := 2) sc__law_lot.nd rfl (by first | exact Or.inl rfl | exact Or.inr rfl))) (fun _ _ _ _ _ => (dts_one (dt_cmp op_gt rs_intB (x_call G__law_take gd hr (by decide) (da_cons (dn_var 0) (da_cons x_int x_nil))) x_int (nomark _)))) (fun _ _ _ _ _ => (dn_var 2)))) x_nil))))
abbrev s__law_lots_right : Stmt := topS 82
theorem sc__law_lots_right : FnScope ["d", "hall", "one", "two", "both", "person", "here", "there", "case", "other", "each"] ["d", "hall", "one", "two"] (defScope s__law_lots_right) := ⟨rfl, rfl, rfl, by decide +kernel, rfl, by decide +kernel, by decide +kernel⟩
noncomputable def m__law_lots_right : MS := (seqM (setM 4 (valM (appA tupleD (consA (lstM (lcM [8] (itM (getv 2)) (setN 8) (tst (bin inD (getv 8) (getv 3))) (getv 8))) nilM))))
    (seqM (forR (r1M (consA (appA lenD (consA (bin dgetD (getv 0) (cM (.str "tellings"))) nilM)) nilM)) (setNS 5) (seqM (parM [6, 7] (slsM (valM (callF 3 C_knows (consA (getv 1) (consA (getv 5) (consA (getv 2) nilM))))) (slsM (valM (callF 3 C_knows (consA (getv 1) (consA (getv 5) (consA (getv 4) nilM))))) sl0M)))
    (seqM (ifM (orT (notT (tst (appA allD (consA (lstM (lcM [8] (itM (getv 6)) (setN 8) yesM (bin inD (getv 8) (getv 2)))) nilM)))) (notT (tst (appA allD (consA (lstM (lcM [8] (itM (getv 7)) (setN 8) yesM (bin inD (getv 8) (getv 6)))) nilM))))) (retM (cM (.bl false))) nopM)
    (seqM (ifM (tst (bin neD (getv 7) (appA tupleD (consA (lstM (lcM [8] (itM (getv 6)) (setN 8) (tst (bin inD (getv 8) (callF 3 C_knows (consA (getv 1) (consA (getv 5) (consA (getv 3) nilM)))))) (getv 8))) nilM)))) (retM (cM (.bl false))) nopM)
    (seqM (forM (itM (getv 6)) (setNS 8) (ifM (tst (appA anyD (consA (lstM (lcM [10] (itM (callF 3 C_seen (consA (getv 1) (consA (getv 5) (consA (getv 8) nilM))))) (setN 10) yesM (bin notInD (getv 10) (getv 6)))) nilM))) (retM (cM (.bl false))) nopM))
    (forR (r1M (consA (appA lenD (consA (bin dgetD (getv 0) (cM (.str "tellings"))) nilM)) nilM)) (setNS 9) (ifM (andT (tst (callF 3 C_is_finer (consA (getv 1) (consA (getv 5) (consA (getv 9) nilM))))) (notT (tst (appA allD (consA (lstM (lcM [8] (itM (callF 3 C_knows (consA (getv 1) (consA (getv 9) (consA (getv 2) nilM))))) (setN 8) yesM (bin inD (getv 8) (getv 6)))) nilM))))) (retM (cM (.bl false))) nopM)))))))
    (retM (cM (.bl true)))))
noncomputable def C__law_lots_right : List D → M D := bodyM 11 m__law_lots_right
theorem g__law_lots_right {P : Program} {w : World} {K : PySem.W.Frag} {mg : Str → Option Value} {base : Heap} {f : Addr} {fd : FuncData} (F : L2.Fun K "_law_lots_right" "_law_lots_right" s__law_lots_right f fd)
    (B : Bl mg)
    {f_knows : Addr} {fd_knows : FuncData} (G_knows : FnGD P w K mg base "knows" f_knows fd_knows 6 ["hall", "person", "lot"] C_knows)
    {f_seen : Addr} {fd_seen : FuncData} (G_seen : FnGD P w K mg base "seen" f_seen fd_seen 5 ["hall", "person", "case"] C_seen)
    {f_is_finer : Addr} {fd_is_finer : FuncData} (G_is_finer : FnGD P w K mg base "is_finer" f_is_finer fd_is_finer 5 ["hall", "person", "other"] C_is_finer) : FnG P w K mg base 7 f fd ["d", "hall", "one", "two"] (spF K mg 4 C__law_lots_right) :=
  fnG_okT F sc__law_lots_right rfl fun cdv A fr s H E hcd gd hr => (dss_cons (ds_set (i := 4) sc__law_lots_right.nd (.inl rfl) (dsl_val (x_tuple B.tuple_ (da_cons (x_lst (dl_comp (own := [("case", 8)]) rfl sc__law_lots_right.nd (x_it (dn_var 2)) (blkOk_by (by kernel_rfl)) (gs_name (i := 8) (by decide)) (fun _ _ _ _ _ => (pg_name (i := 8) sc__law_lots_right.nd rfl (by first | exact Or.inl rfl | exact Or.inr rfl))) (fun _ _ _ _ _ => (dts_one (dt_cmp (o_in hr) rs_in (dn_var 8) (dn_var 3) (by rfl)))) (fun _ _ _ _ _ => (dn_var 8)))) x_nil))))
      (dss_cons (ds_forR PassesOwn.never rfl (x_ir1 (da_cons (x_len B.len_ (da_cons (dn_dget (un1 hr) (dn_var 0) x_str (fun _ _ => rfl)) x_nil)) x_nil) B.range_) (pg_name (i := 5) sc__law_lots_right.nd rfl (.inr rfl)) (gss_name (i := 5)) (dss_cons (ds_parT (is := [6, 7]) (x_sls (dsl_val (x_call G_knows gd hr (by decide) (da_cons (dn_var 1) (da_cons (dn_var 5) (da_cons (dn_var 2) x_nil))))) (x_sls (dsl_val (x_call G_knows gd hr (by decide) (da_cons (dn_var 1) (da_cons (dn_var 5) (da_cons (dn_var 4) x_nil))))) x_sl0)) (pg_tup rfl (pgs_cons (pg_name (i := 6) sc__law_lots_right.nd rfl (.inr rfl)) (pgs_cons (pg_name (i := 7) sc__law_lots_right.nd rfl (.inl rfl)) pgs_nil))))
      (dss_cons (ds_if (dt_w (dw_or (dt_not (dt_val (x_all rfl B.all_ (da_cons (x_lst (dl_comp (own := [("case", 8)]) rfl sc__law_lots_right.nd (x_it (dn_var 6)) (blkOk_by (by kernel_rfl)) (gs_name (i := 8) (by decide)) (fun _ _ _ _ _ => (pg_name (i := 8) sc__law_lots_right.nd rfl (by first | exact Or.inl rfl | exact Or.inr rfl))) (fun _ _ _ _ _ => x_ts0) (fun _ _ _ _ _ => (dn_cmp (o_in hr) rs_in (dn_var 8) (dn_var 2) (by rfl))))) x_nil)))) (dw_or1 (dt_not (dt_val (x_all rfl B.all_ (da_cons (x_lst (dl_comp (own := [("case", 8)]) rfl sc__law_lots_right.nd (x_it (dn_var 7)) (blkOk_by (by kernel_rfl)) (gs_name (i := 8) (by decide)) (fun _ _ _ _ _ => (pg_name (i := 8) sc__law_lots_right.nd rfl (by first | exact Or.inl rfl | exact Or.inr rfl))) (fun _ _ _ _ _ => x_ts0) (fun _ _ _ _ _ => (dn_cmp (o_in hr) rs_in (dn_var 8) (dn_var 6) (by rfl))))) x_nil))))))) (dss_one (x_ret x_bl)) x_ss0)
      (dss_cons (ds_if (dt_cmp (o_ne hr) rs_ne (dn_var 7) (x_tuple B.tuple_ (da_cons (x_lst (dl_comp (own := [("case", 8)]) rfl sc__law_lots_right.nd (x_it (dn_var 6)) (blkOk_by (by kernel_rfl)) (gs_name (i := 8) (by decide)) (fun _ _ _ _ _ => (pg_name (i := 8) sc__law_lots_right.nd rfl (by first | exact Or.inl rfl | exact Or.inr rfl))) (fun _ _ _ _ _ => (dts_one (dt_cmp (o_in hr) rs_in (dn_var 8) (x_call G_knows gd hr (by decide) (da_cons (dn_var 1) (da_cons (dn_var 5) (da_cons (dn_var 3) x_nil)))) (by rfl)))) (fun _ _ _ _ _ => (dn_var 8)))) x_nil)) (nomark _)) (dss_one (x_ret x_bl)) x_ss0)
      (dss_cons (ds_for PassesOwn.never rfl (x_it (dn_var 6)) (pg_name (i := 8) sc__law_lots_right.nd rfl (.inl rfl)) (gss_name (i := 8)) (dss_one (ds_if (dt_val (x_any rfl B.any_ (da_cons (x_lst (dl_comp (own := [("each", 10)]) rfl sc__law_lots_right.nd (x_it (x_call G_seen gd hr (by decide) (da_cons (dn_var 1) (da_cons (dn_var 5) (da_cons (dn_var 8) x_nil))))) (blkOk_by (by kernel_rfl)) (gs_name (i := 10) (by decide)) (fun _ _ _ _ _ => (pg_name (i := 10) sc__law_lots_right.nd rfl (by first | exact Or.inl rfl | exact Or.inr rfl))) (fun _ _ _ _ _ => x_ts0) (fun _ _ _ _ _ => (dn_cmp (o_nin hr) rs_notIn (dn_var 10) (dn_var 6) (by rfl))))) x_nil))) (dss_one (x_ret x_bl)) x_ss0)))
      (dss_one (ds_forR PassesOwn.never rfl (x_ir1 (da_cons (x_len B.len_ (da_cons (dn_dget (un1 hr) (dn_var 0) x_str (fun _ _ => rfl)) x_nil)) x_nil) B.range_) (pg_name (i := 9) sc__law_lots_right.nd rfl (.inl rfl)) (gss_name (i := 9)) (dss_one (ds_if (dt_w (dw_and (dt_val (x_call G_is_finer gd hr (by decide) (da_cons (dn_var 1) (da_cons (dn_var 5) (da_cons (dn_var 9) x_nil))))) (dw_and1 (dt_not (dt_val (x_all rfl B.all_ (da_cons (x_lst (dl_comp (own := [("case", 8)]) rfl sc__law_lots_right.nd (x_it (x_call G_knows gd hr (by decide) (da_cons (dn_var 1) (da_cons (dn_var 9) (da_cons (dn_var 2) x_nil))))) (blkOk_by (by kernel_rfl)) (gs_name (i := 8) (by decide)) (fun _ _ _ _ _ => (pg_name (i := 8) sc__law_lots_right.nd rfl (by first | exact Or.inl rfl | exact Or.inr rfl))) (fun _ _ _ _ _ => x_ts0) (fun _ _ _ _ _ => (dn_cmp (o_in hr) rs_in (dn_var 8) (dn_var 6) (by rfl))))) x_nil))))))) (dss_one (x_ret x_bl)) x_ss0)))))))))
      (dss_one (x_ret x_bl))))
abbrev s__law_right : Stmt := topS 83
theorem sc__law_right : FnScope ["pool", "most", "d", "hall", "cases", "persons", "one", "two", "rows", "case", "many", "due", "ahead", "later", "piece", "part", "person", "every", "times_v"] ["pool", "most"] (defScope s__law_right) := ⟨rfl, rfl, rfl, by decide +kernel, rfl, by decide +kernel, by decide +kernel⟩
noncomputable def m__law_right : MS := (seqM (setM 2 (valM (callF 3 C__law_hall (consA (getv 0) (consA (bin ixD (getv 1) (cM (.int 0))) (consA (bin ixD (getv 1) (cM (.int 1))) nilM))))))
    (seqM (parM [3, 4, 5] (slsM (valM (callF 1 C__law_made (consA (getv 2) nilM))) (slsM (valM (bin dgetD (getv 2) (cM (.str "cases")))) (slsM (valM (lrM (ra1M (appA lenD (consA (bin dgetD (getv 2) (cM (.str "tellings"))) nilM))))) sl0M))))
    (seqM (parM [6, 7] (slsM (valM (callF 2 C__law_lot (consA (getv 0) (consA (getv 4) nilM)))) (slsM (valM (callF 2 C__law_lot (consA (getv 0) (consA (getv 4) nilM)))) sl0M)))
    (seqM (ifM (notT (tst (callF 4 C__law_lots_right (consA (getv 2) (consA (getv 3) (consA (getv 6) (consA (getv 7) nilM))))))) (retM (cM (.bl false))) nopM)
    (seqM (setM 8 (ownM (lcM [18] (r1M (consA (bin addD (getv 4) (cM (.int 1))) nilM)) (setN 18) yesM (callF 3 C_all_know (consA (getv 3) (consA (getv 6) (consA (getv 18) nilM)))))))
    (seqM (forR (r1M (consA (getv 4) nilM)) (setNS 9) (seqM (ifM (tst (bin neD (bin inD (getv 9) (bin ixD (getv 8) (cM (.int 1)))) (appA allD (consA (lstM (lcM [16] (itM (getv 5)) (setN 16) yesM (bin inD (getv 9) (callF 3 C_knows (consA (getv 3) (consA (getv 16) (consA (getv 6) nilM))))))) nilM)))) (retM (cM (.bl false))) nopM)
    (seqM (setM 10 (ownM (lcM [18] (r1M (consA (bin addD (getv 4) (cM (.int 1))) nilM)) (setN 18) (tst (bin inD (getv 9) (bin ixD (getv 8) (getv 18)))) (getv 18))))
    (seqM (setM 11 (valM (ifV (tst (bin inD (getv 9) (callF 2 C_for_ever (consA (getv 3) (consA (getv 6) nilM))))) (cM .non) (appA maxLD (consA (bin addD (lstM (lsM (consA (cM (.int 0)) nilM))) (getv 10)) nilM)))))
    (ifM (tst (bin neD (callF 3 C_depth (consA (getv 3) (consA (getv 6) (consA (getv 9) nilM)))) (getv 11))) (retM (cM (.bl false))) nopM)))))
    (frzM 8 (frzM 8 (seqM (forM (zipM (consA (getv 8) (consA (slM (getv 8) (soM (cM (.int 1))) noM) nilM))) (setTS [12, 13]) (ifM (notT (tst (appA allD (consA (lstM (lcM [9] (itM (getv 13)) (setN 9) yesM (bin inD (getv 9) (getv 12)))) nilM)))) (retM (cM (.bl false))) nopM))
    (seqM (ifM (orT (tst (bin neD (bin ixD (getv 8) (cM (.int 0))) (getv 6))) (orT (tst (bin neD (bin ixD (getv 8) (bin subD (getv 4) (cM (.int 1)))) (bin ixD (getv 8) (getv 4)))) (tst (bin neD (bin ixD (getv 8) (getv 4)) (callF 2 C_for_ever (consA (getv 3) (consA (getv 6) nilM))))))) (retM (cM (.bl false))) nopM)
    (seqM (forM (itM (callF 1 C_pieces (consA (getv 3) nilM))) (setNS 14) (ifM (tst (bin neD (bin inD (bin ixD (getv 14) (cM (.int 0))) (callF 2 C_for_ever (consA (getv 3) (consA (getv 6) nilM)))) (appA allD (consA (lstM (lcM [9] (itM (getv 14)) (setN 9) yesM (bin inD (getv 9) (getv 6)))) nilM)))) (retM (cM (.bl false))) nopM))
    (seqM (forM (itM (callF 1 C_pooled (consA (getv 3) nilM))) (setNS 15) (forM (itM (getv 5)) (setNS 16) (ifM (notT (tst (appA allD (consA (lstM (lcM [9] (itM (getv 15)) (setN 9) yesM (bin inD (getv 9) (callF 3 C_seen (consA (getv 3) (consA (getv 16) (consA (bin ixD (getv 15) (cM (.int 0))) nilM))))))) nilM)))) (retM (cM (.bl false))) nopM)))
    (seqM (setM 17 (ownM (lsM nilM)))
    (seqM (forM (itM (callF 1 C_pooled (consA (getv 3) nilM))) (setNS 15) (setM 17 (ownM (lcatM (getv 17) (appA listD (consA (getv 15) nilM))))))
    (retM (bin eqD (appA sortedD (consA (getv 17) nilM)) (lrM (ra1M (getv 4)))))))))))))))))))
noncomputable def C__law_right : List D → M D := bodyM 19 m__law_right
theorem g__law_right {P : Program} {w : World} {K : PySem.W.Frag} {mg : Str → Option Value} {base : Heap} {f : Addr} {fd : FuncData} (F : L2.Fun K "_law_right" "_law_right" s__law_right f fd)
    {f__law_hall : Addr} {fd__law_hall : FuncData} (G__law_hall : FnGD P w K mg base "_law_hall" f__law_hall fd__law_hall 4 ["pool", "most", "odd"] C__law_hall)
    {f__law_made : Addr} {fd__law_made : FuncData} (G__law_made : FnGD P w K mg base "_law_made" f__law_made fd__law_made 13 ["d"] C__law_made)
    (B : Bl mg)
    {f__law_lot : Addr} {fd__law_lot : FuncData} (G__law_lot : FnGD P w K mg base "_law_lot" f__law_lot fd__law_lot 2 ["pool", "cases"] C__law_lot)
    {f__law_lots_right : Addr} {fd__law_lots_right : FuncData} (G__law_lots_right : FnGD P w K mg base "_law_lots_right" f__law_lots_right fd__law_lots_right 7 ["d", "hall", "one", "two"] C__law_lots_right)
    {f_all_know : Addr} {fd_all_know : FuncData} (G_all_know : FnGD P w K mg base "all_know" f_all_know fd_all_know 7 ["hall", "lot", "times"] C_all_know)
    {f_knows : Addr} {fd_knows : FuncData} (G_knows : FnGD P w K mg base "knows" f_knows fd_knows 6 ["hall", "person", "lot"] C_knows)
    {f_for_ever : Addr} {fd_for_ever : FuncData} (G_for_ever : FnGD P w K mg base "for_ever" f_for_ever fd_for_ever 8 ["hall", "lot"] C_for_ever)
    {f_depth : Addr} {fd_depth : FuncData} (G_depth : FnGD P w K mg base "depth" f_depth fd_depth 9 ["hall", "lot", "case"] C_depth)
    {f_pieces : Addr} {fd_pieces : FuncData} (G_pieces : FnGD P w K mg base "pieces" f_pieces fd_pieces 7 ["hall"] C_pieces)
    {f_pooled : Addr} {fd_pooled : FuncData} (G_pooled : FnGD P w K mg base "pooled" f_pooled fd_pooled 4 ["hall"] C_pooled)
    {f_seen : Addr} {fd_seen : FuncData} (G_seen : FnGD P w K mg base "seen" f_seen fd_seen 5 ["hall", "person", "case"] C_seen) : FnG P w K mg base 14 f fd ["pool", "most"] (spF K mg 2 C__law_right) :=
  fnG_okT F sc__law_right rfl fun cdv A fr s H E hcd gd hr => (dss_cons (ds_set (i := 2) sc__law_right.nd (.inl rfl) (dsl_val (x_call G__law_hall gd hr (by decide) (da_cons (dn_var 0) (da_cons (dn_sub1 (dn_var 1) x_int) (da_cons (dn_sub1 (dn_var 1) x_int) x_nil))))))
      (dss_cons (ds_parT (is := [3, 4, 5]) (x_sls (dsl_val (x_call G__law_made gd hr (by decide) (da_cons (dn_var 2) x_nil))) (x_sls (dsl_val (dn_dget (un1 hr) (dn_var 2) x_str (fun _ _ => rfl))) (x_sls (dsl_val (x_lr rfl (x_ra1 (x_len B.len_ (da_cons (dn_dget (un1 hr) (dn_var 2) x_str (fun _ _ => rfl)) x_nil)) B.range_) B.list_)) x_sl0))) (pg_tup rfl (pgs_cons (pg_name (i := 3) sc__law_right.nd rfl (.inr rfl)) (pgs_cons (pg_name (i := 4) sc__law_right.nd rfl (.inl rfl)) (pgs_cons (pg_name (i := 5) sc__law_right.nd rfl (.inl rfl)) pgs_nil)))))
      (dss_cons (ds_parT (is := [6, 7]) (x_sls (dsl_val (x_call G__law_lot gd hr (by decide) (da_cons (dn_var 0) (da_cons (dn_var 4) x_nil)))) (x_sls (dsl_val (x_call G__law_lot gd hr (by decide) (da_cons (dn_var 0) (da_cons (dn_var 4) x_nil)))) x_sl0)) (pg_tup rfl (pgs_cons (pg_name (i := 6) sc__law_right.nd rfl (.inr rfl)) (pgs_cons (pg_name (i := 7) sc__law_right.nd rfl (.inl rfl)) pgs_nil))))
      (dss_cons (ds_if (dt_not (dt_val (x_call G__law_lots_right gd hr (by decide) (da_cons (dn_var 2) (da_cons (dn_var 3) (da_cons (dn_var 6) (da_cons (dn_var 7) x_nil))))))) (dss_one (x_ret x_bl)) x_ss0)
      (dss_cons (ds_set (i := 8) sc__law_right.nd (.inr rfl) (dsl_own (dl_comp (own := [("times_v", 18)]) rfl sc__law_right.nd (x_r1 (da_cons (dn_add (dn_var 4) x_int) x_nil) B.range_) (blkOk_by (by kernel_rfl)) (gs_name (i := 18) (by decide)) (fun _ _ _ _ _ => (pg_name (i := 18) sc__law_right.nd rfl (by first | exact Or.inl rfl | exact Or.inr rfl))) (fun _ _ _ _ _ => x_ts0) (fun _ _ _ _ _ => (x_call G_all_know gd hr (by decide) (da_cons (dn_var 3) (da_cons (dn_var 6) (da_cons (dn_var 18) x_nil))))))))
      (dss_cons (ds_forR PassesOwn.never rfl (x_ir1 (da_cons (dn_var 4) x_nil) B.range_) (pg_name (i := 9) sc__law_right.nd rfl (.inr rfl)) (gss_name (i := 9)) (dss_cons (ds_if (dt_cmp (o_ne hr) rs_ne (dn_cmp (o_in hr) rs_in (dn_var 9) (dn_sub1 (dn_var 8) x_int) (by rfl)) (x_all rfl B.all_ (da_cons (x_lst (dl_comp (own := [("person", 16)]) rfl sc__law_right.nd (x_it (dn_var 5)) (blkOk_by (by kernel_rfl)) (gs_name (i := 16) (by decide)) (fun _ _ _ _ _ => (pg_name (i := 16) sc__law_right.nd rfl (by first | exact Or.inl rfl | exact Or.inr rfl))) (fun _ _ _ _ _ => x_ts0) (fun _ _ _ _ _ => (dn_cmp (o_in hr) rs_in (dn_var 9) (x_call G_knows gd hr (by decide) (da_cons (dn_var 3) (da_cons (dn_var 16) (da_cons (dn_var 6) x_nil)))) (by rfl))))) x_nil)) (nomark _)) (dss_one (x_ret x_bl)) x_ss0)
      (dss_cons (ds_setLc (i := 10) (own := [("times_v", 18)]) rfl sc__law_right.nd rfl rfl (x_r1 (da_cons (dn_add (dn_var 4) x_int) x_nil) B.range_) (blkOk_by (by kernel_rfl)) (gs_name (i := 18) (by decide)) (fun _ _ _ _ _ => (pg_name (i := 18) sc__law_right.nd rfl (by first | exact Or.inl rfl | exact Or.inr rfl))) (fun _ _ _ _ _ => (dts_one (dt_cmp (o_in hr) rs_in (dn_var 9) (dn_sub1 (dn_var 8) (dn_var 18)) (by rfl)))) (fun _ _ _ _ _ => (dn_var 18)))
      (dss_cons (ds_set (i := 11) sc__law_right.nd (.inl rfl) (dsl_val (dn_if (dt_cmp (o_in hr) rs_in (dn_var 9) (x_call G_for_ever gd hr (by decide) (da_cons (dn_var 3) (da_cons (dn_var 6) x_nil))) (by rfl)) x_non (x_maxL rfl B.max_ (da_cons (dn_add (x_lst (x_ls (da_cons x_int x_nil))) (dn_var 10)) x_nil)))))
      (dss_one (ds_if (dt_cmp (o_ne hr) rs_ne (x_call G_depth gd hr (by decide) (da_cons (dn_var 3) (da_cons (dn_var 6) (da_cons (dn_var 9) x_nil)))) (dn_var 11) (nomark _)) (dss_one (x_ret x_bl)) x_ss0))))))
      (dss_frz 8 (dss_frz 8 (dss_cons (ds_for PassesOwn.never rfl (x_zip (da_cons (dn_var 8) (da_cons (dn_slice (dn_var 8) (x_so x_int) x_no) x_nil)) B.zip_) (pg_tup rfl (pgs_cons (pg_name (i := 12) sc__law_right.nd rfl (.inr rfl)) (pgs_cons (pg_name (i := 13) sc__law_right.nd rfl (.inl rfl)) pgs_nil))) (gss_tup (is := [12, 13])) (dss_one (ds_if (dt_not (dt_val (x_all rfl B.all_ (da_cons (x_lst (dl_comp (own := [("case", 9)]) rfl sc__law_right.nd (x_it (dn_var 13)) (blkOk_by (by kernel_rfl)) (gs_name (i := 9) (by decide)) (fun _ _ _ _ _ => (pg_name (i := 9) sc__law_right.nd rfl (by first | exact Or.inl rfl | exact Or.inr rfl))) (fun _ _ _ _ _ => x_ts0) (fun _ _ _ _ _ => (dn_cmp (o_in hr) rs_in (dn_var 9) (dn_var 12) (by rfl))))) x_nil)))) (dss_one (x_ret x_bl)) x_ss0)))
      (dss_cons (ds_if (dt_w (dw_or (dt_cmp (o_ne hr) rs_ne (dn_sub1 (dn_var 8) x_int) (dn_var 6) (nomark _)) (dw_or (dt_cmp (o_ne hr) rs_ne (dn_sub1 (dn_var 8) (dn_sub (dn_var 4) x_int)) (dn_sub1 (dn_var 8) (dn_var 4)) (nomark _)) (dw_or1 (dt_cmp (o_ne hr) rs_ne (dn_sub1 (dn_var 8) (dn_var 4)) (x_call G_for_ever gd hr (by decide) (da_cons (dn_var 3) (da_cons (dn_var 6) x_nil))) (nomark _)))))) (dss_one (x_ret x_bl)) x_ss0)
      (dss_cons (ds_for PassesOwn.never rfl (x_it (x_call G_pieces gd hr (by decide) (da_cons (dn_var 3) x_nil))) (pg_name (i := 14) sc__law_right.nd rfl (.inl rfl)) (gss_name (i := 14)) (dss_one (ds_if (dt_cmp (o_ne hr) rs_ne (dn_cmp (o_in hr) rs_in (dn_sub1 (dn_var 14) x_int) (x_call G_for_ever gd hr (by decide) (da_cons (dn_var 3) (da_cons (dn_var 6) x_nil))) (by rfl)) (x_all rfl B.all_ (da_cons (x_lst (dl_comp (own := [("case", 9)]) rfl sc__law_right.nd (x_it (dn_var 14)) (blkOk_by (by kernel_rfl)) (gs_name (i := 9) (by decide)) (fun _ _ _ _ _ => (pg_name (i := 9) sc__law_right.nd rfl (by first | exact Or.inl rfl | exact Or.inr rfl))) (fun _ _ _ _ _ => x_ts0) (fun _ _ _ _ _ => (dn_cmp (o_in hr) rs_in (dn_var 9) (dn_var 6) (by rfl))))) x_nil)) (nomark _)) (dss_one (x_ret x_bl)) x_ss0)))
      (dss_cons (ds_for PassesOwn.never rfl (x_it (x_call G_pooled gd hr (by decide) (da_cons (dn_var 3) x_nil))) (pg_name (i := 15) sc__law_right.nd rfl (.inr rfl)) (gss_name (i := 15)) (dss_one (ds_for PassesOwn.never rfl (x_it (dn_var 5)) (pg_name (i := 16) sc__law_right.nd rfl (.inr rfl)) (gss_name (i := 16)) (dss_one (ds_if (dt_not (dt_val (x_all rfl B.all_ (da_cons (x_lst (dl_comp (own := [("case", 9)]) rfl sc__law_right.nd (x_it (dn_var 15)) (blkOk_by (by kernel_rfl)) (gs_name (i := 9) (by decide)) (fun _ _ _ _ _ => (pg_name (i := 9) sc__law_right.nd rfl (by first | exact Or.inl rfl | exact Or.inr rfl))) (fun _ _ _ _ _ => x_ts0) (fun _ _ _ _ _ => (dn_cmp (o_in hr) rs_in (dn_var 9) (x_call G_seen gd hr (by decide) (da_cons (dn_var 3) (da_cons (dn_var 16) (da_cons (dn_sub1 (dn_var 15) x_int) x_nil)))) (by rfl))))) x_nil)))) (dss_one (x_ret x_bl)) x_ss0)))))
      (dss_cons (ds_set (i := 17) sc__law_right.nd (.inl rfl) (dsl_own (x_ls x_nil)))
      (dss_cons (ds_for PassesOwn.never rfl (x_it (x_call G_pooled gd hr (by decide) (da_cons (dn_var 3) x_nil))) (pg_name (i := 15) sc__law_right.nd rfl (.inr rfl)) (gss_name (i := 15)) (dss_one (ds_set (i := 17) sc__law_right.nd (.inl rfl) (dsl_own (x_lcat (dn_var 17) (x_list B.list_ (da_cons (dn_var 15) x_nil)))))))
      (dss_one (x_ret (dn_cmp (o_eq hr) rs_eq (x_sorted B.sorted_ (da_cons (dn_var 17) x_nil)) (x_lr rfl (x_ra1 (dn_var 4) B.range_) B.list_) (nomark _))))))))))))))))))
abbrev s_law : Stmt := topS 84
theorem sc_law : FnScope ["script", "k", "pool", "most"] ["script"] (defScope s_law) := ⟨rfl, rfl, rfl, by decide +kernel, rfl, by decide +kernel, by decide +kernel⟩
noncomputable def m_law : MS := (seqM (forR (r1M (consA (appA max2D (consA (cM (.int 2)) (consA (appA min2D (consA (appA lenD (consA (getv 0) nilM)) (consA (cM (.int 3)) nilM))) nilM))) nilM)) (setNS 1) (seqM (setM 2 (valM (callF 2 C__law_pool (consA (getv 0) (consA (getv 1) nilM)))))
    (forM (itM (lstM (lsM (consA (lstM (lsM (consA (cM (.int 6)) (consA (cM (.int 0)) nilM)))) (consA (lstM (lsM (consA (cM (.int 6)) (consA (cM (.int 2)) nilM)))) (consA (lstM (lsM (consA (cM (.int 5)) (consA (cM (.int 6)) nilM)))) (consA (lstM (lsM (consA (cM (.int 4)) (consA (cM (.int 1)) nilM)))) (consA (lstM (lsM (consA (cM (.int 3)) (consA (cM (.int 3)) nilM)))) nilM)))))))) (setNS 3) (ifM (notT (tst (callF 2 C__law_right (consA (getv 2) (consA (getv 3) nilM))))) (retM (cM (.bl false))) nopM))))
    (retM (cM (.bl true))))
noncomputable def C_law : List D → M D := bodyM 4 m_law
theorem g_law {P : Program} {w : World} {K : PySem.W.Frag} {mg : Str → Option Value} {base : Heap} {f : Addr} {fd : FuncData} (F : L2.Fun K "law" "law" s_law f fd)
    (B : Bl mg)
    {f__law_pool : Addr} {fd__law_pool : FuncData} (G__law_pool : FnGD P w K mg base "_law_pool" f__law_pool fd__law_pool 1 ["script", "k"] C__law_pool)
    {f__law_right : Addr} {fd__law_right : FuncData} (G__law_right : FnGD P w K mg base "_law_right" f__law_right fd__law_right 14 ["pool", "most"] C__law_right) : FnG P w K mg base 15 f fd ["script"] (spF K mg 1 C_law) :=
  fnG_okT F sc_law rfl fun cdv A fr s H E hcd gd hr => (dss_cons (ds_forR PassesOwn.never rfl (x_ir1 (da_cons (x_max rfl B.max_ (da_cons x_int (da_cons (x_min rfl B.min_ (da_cons (x_len B.len_ (da_cons (dn_var 0) x_nil)) (da_cons x_int x_nil))) x_nil))) x_nil) B.range_) (pg_name (i := 1) sc_law.nd rfl (.inl rfl)) (gss_name (i := 1)) (dss_cons (ds_set (i := 2) sc_law.nd (.inl rfl) (dsl_val (x_call G__law_pool gd hr (by decide) (da_cons (dn_var 0) (da_cons (dn_var 1) x_nil)))))
      (dss_one (ds_for PassesOwn.never rfl (x_it (x_lst (x_ls (da_cons (x_lst (x_ls (da_cons x_int (da_cons x_int x_nil)))) (da_cons (x_lst (x_ls (da_cons x_int (da_cons x_int x_nil)))) (da_cons (x_lst (x_ls (da_cons x_int (da_cons x_int x_nil)))) (da_cons (x_lst (x_ls (da_cons x_int (da_cons x_int x_nil)))) (da_cons (x_lst (x_ls (da_cons x_int (da_cons x_int x_nil)))) x_nil)))))))) (pg_name (i := 3) sc_law.nd rfl (.inl rfl)) (gss_name (i := 3)) (dss_one (ds_if (dt_not (dt_val (x_call G__law_right gd hr (by decide) (da_cons (dn_var 2) (da_cons (dn_var 3) x_nil))))) (dss_one (x_ret x_bl)) x_ss0))))))
      (dss_one (x_ret x_bl)))
end Lw

set_option Elab.async false
set_option linter.all false
set_option maxRecDepth 100000
set_option maxHeartbeats 8000000
namespace Lw
open PySem PySem.Spec PyProof.Rows L2 Pm
theorem all_mk {P : Program} {w : World} {K : PySem.W.Frag} {h : Heap} {mg : Str → Option Value} {fa : Addr} (KX : K.In h) (G : h.Ns mainGlobals mg) (hfa : mg "law" = some (.ref fa))
    {f_is_whole : Addr} {od_is_whole an_is_whole : Option Addr} {sl_is_whole : Array (Option Value)} {oc_is_whole kV_is_whole dc_is_whole pm_is_whole cd_is_whole ct_is_whole : Value}
    {f_is_number : Addr} {od_is_number an_is_number : Option Addr} {sl_is_number : Array (Option Value)} {oc_is_number kV_is_number dc_is_number pm_is_number cd_is_number ct_is_number : Value}
    {T_is_number : Addr} {Tn_is_number : Nat}
    {tk_is_number_0 : Tok}
    {od_is_number_t : Option Addr} {sl_is_number_t : Array (Option Value)}
    {f_is_between : Addr} {od_is_between an_is_between : Option Addr} {sl_is_between : Array (Option Value)} {oc_is_between kV_is_between dc_is_between pm_is_between cd_is_between ct_is_between : Value}
    {f_is_tuple_of : Addr} {od_is_tuple_of an_is_tuple_of : Option Addr} {sl_is_tuple_of : Array (Option Value)} {oc_is_tuple_of kV_is_tuple_of dc_is_tuple_of pm_is_tuple_of cd_is_tuple_of ct_is_tuple_of : Value}
    {f_is_row : Addr} {od_is_row an_is_row : Option Addr} {sl_is_row : Array (Option Value)} {oc_is_row kV_is_row dc_is_row pm_is_row cd_is_row ct_is_row : Value}
    {f_first_wrong : Addr} {od_first_wrong an_first_wrong : Option Addr} {sl_first_wrong : Array (Option Value)} {oc_first_wrong kV_first_wrong dc_first_wrong pm_first_wrong cd_first_wrong ct_first_wrong : Value}
    {f_lowest : Addr} {od_lowest an_lowest : Option Addr} {sl_lowest : Array (Option Value)} {oc_lowest kV_lowest dc_lowest pm_lowest cd_lowest ct_lowest : Value}
    {f_is_fraction : Addr} {od_is_fraction an_is_fraction : Option Addr} {sl_is_fraction : Array (Option Value)} {oc_is_fraction kV_is_fraction dc_is_fraction pm_is_fraction cd_is_fraction ct_is_fraction : Value}
    {f_plus : Addr} {od_plus an_plus : Option Addr} {sl_plus : Array (Option Value)} {oc_plus kV_plus dc_plus pm_plus cd_plus ct_plus : Value}
    {f_times : Addr} {od_times an_times : Option Addr} {sl_times : Array (Option Value)} {oc_times kV_times dc_times pm_times cd_times ct_times : Value}
    {f_divided : Addr} {od_divided an_divided : Option Addr} {sl_divided : Array (Option Value)} {oc_divided kV_divided dc_divided pm_divided cd_divided ct_divided : Value}
    {f_sum_of : Addr} {od_sum_of an_sum_of : Option Addr} {sl_sum_of : Array (Option Value)} {oc_sum_of kV_sum_of dc_sum_of pm_sum_of cd_sum_of ct_sum_of : Value}
    {f_is_cases : Addr} {od_is_cases an_is_cases : Option Addr} {sl_is_cases : Array (Option Value)} {oc_is_cases kV_is_cases dc_is_cases pm_is_cases cd_is_cases ct_is_cases : Value}
    {f_is_lot_of : Addr} {od_is_lot_of an_is_lot_of : Option Addr} {sl_is_lot_of : Array (Option Value)} {oc_is_lot_of kV_is_lot_of dc_is_lot_of pm_is_lot_of cd_is_lot_of ct_is_lot_of : Value}
    {f_are_chances : Addr} {od_are_chances an_are_chances : Option Addr} {sl_are_chances : Array (Option Value)} {oc_are_chances kV_are_chances dc_are_chances pm_are_chances cd_are_chances ct_are_chances : Value}
    {f_is_part : Addr} {od_is_part an_is_part : Option Addr} {sl_is_part : Array (Option Value)} {oc_is_part kV_is_part dc_is_part pm_is_part cd_is_part ct_is_part : Value}
    {f_is_telling : Addr} {od_is_telling an_is_telling : Option Addr} {sl_is_telling : Array (Option Value)} {oc_is_telling kV_is_telling dc_is_telling pm_is_telling cd_is_telling ct_is_telling : Value}
    {f_wrong_telling : Addr} {od_wrong_telling an_wrong_telling : Option Addr} {sl_wrong_telling : Array (Option Value)} {oc_wrong_telling kV_wrong_telling dc_wrong_telling pm_wrong_telling cd_wrong_telling ct_wrong_telling : Value}
    {f_check_tellings : Addr} {od_check_tellings an_check_tellings : Option Addr} {sl_check_tellings : Array (Option Value)} {oc_check_tellings kV_check_tellings dc_check_tellings pm_check_tellings cd_check_tellings ct_check_tellings : Value}
    {f_Hall_init : Addr} {od_Hall_init an_Hall_init : Option Addr} {sl_Hall_init : Array (Option Value)} {oc_Hall_init kV_Hall_init dc_Hall_init pm_Hall_init cd_Hall_init ct_Hall_init : Value}
    {f_check_hall : Addr} {od_check_hall an_check_hall : Option Addr} {sl_check_hall : Array (Option Value)} {oc_check_hall kV_check_hall dc_check_hall pm_check_hall cd_check_hall ct_check_hall : Value}
    {f_cases_of : Addr} {od_cases_of an_cases_of : Option Addr} {sl_cases_of : Array (Option Value)} {oc_cases_of kV_cases_of dc_cases_of pm_cases_of cd_cases_of ct_cases_of : Value}
    {f_persons_of : Addr} {od_persons_of an_persons_of : Option Addr} {sl_persons_of : Array (Option Value)} {oc_persons_of kV_persons_of dc_persons_of pm_persons_of cd_persons_of ct_persons_of : Value}
    {f_is_case : Addr} {od_is_case an_is_case : Option Addr} {sl_is_case : Array (Option Value)} {oc_is_case kV_is_case dc_is_case pm_is_case cd_is_case ct_is_case : Value}
    {f_check_case : Addr} {od_check_case an_check_case : Option Addr} {sl_check_case : Array (Option Value)} {oc_check_case kV_check_case dc_check_case pm_check_case cd_check_case ct_check_case : Value}
    {f_is_person : Addr} {od_is_person an_is_person : Option Addr} {sl_is_person : Array (Option Value)} {oc_is_person kV_is_person dc_is_person pm_is_person cd_is_person ct_is_person : Value}
    {f_check_person : Addr} {od_check_person an_check_person : Option Addr} {sl_check_person : Array (Option Value)} {oc_check_person kV_check_person dc_check_person pm_check_person cd_check_person ct_check_person : Value}
    {f_is_lot : Addr} {od_is_lot an_is_lot : Option Addr} {sl_is_lot : Array (Option Value)} {oc_is_lot kV_is_lot dc_is_lot pm_is_lot cd_is_lot ct_is_lot : Value}
    {f_check_lot : Addr} {od_check_lot an_check_lot : Option Addr} {sl_check_lot : Array (Option Value)} {oc_check_lot kV_check_lot dc_check_lot pm_check_lot cd_check_lot ct_check_lot : Value}
    {f_part_at : Addr} {od_part_at an_part_at : Option Addr} {sl_part_at : Array (Option Value)} {oc_part_at kV_part_at dc_part_at pm_part_at cd_part_at ct_part_at : Value}
    {f_seen_by : Addr} {od_seen_by an_seen_by : Option Addr} {sl_seen_by : Array (Option Value)} {oc_seen_by kV_seen_by dc_seen_by pm_seen_by cd_seen_by ct_seen_by : Value}
    {f_told_of : Addr} {od_told_of an_told_of : Option Addr} {sl_told_of : Array (Option Value)} {oc_told_of kV_told_of dc_told_of pm_told_of cd_told_of ct_told_of : Value}
    {f_seen : Addr} {od_seen an_seen : Option Addr} {sl_seen : Array (Option Value)} {oc_seen kV_seen dc_seen pm_seen cd_seen ct_seen : Value}
    {f_tied_with : Addr} {od_tied_with an_tied_with : Option Addr} {sl_tied_with : Array (Option Value)} {oc_tied_with kV_tied_with dc_tied_with pm_tied_with cd_tied_with ct_tied_with : Value}
    {f_quotient : Addr} {od_quotient an_quotient : Option Addr} {sl_quotient : Array (Option Value)} {oc_quotient kV_quotient dc_quotient pm_quotient cd_quotient ct_quotient : Value}
    {f_Tree_init : Addr} {od_Tree_init an_Tree_init : Option Addr} {sl_Tree_init : Array (Option Value)} {oc_Tree_init kV_Tree_init dc_Tree_init pm_Tree_init cd_Tree_init ct_Tree_init : Value}
    {f_pieces_by : Addr} {od_pieces_by an_pieces_by : Option Addr} {sl_pieces_by : Array (Option Value)} {oc_pieces_by kV_pieces_by dc_pieces_by pm_pieces_by cd_pieces_by ct_pieces_by : Value}
    {f_pieces : Addr} {od_pieces an_pieces : Option Addr} {sl_pieces : Array (Option Value)} {oc_pieces kV_pieces dc_pieces pm_pieces cd_pieces ct_pieces : Value}
    {f_is_within : Addr} {od_is_within an_is_within : Option Addr} {sl_is_within : Array (Option Value)} {oc_is_within kV_is_within dc_is_within pm_is_within cd_is_within ct_is_within : Value}
    {f_knows_by : Addr} {od_knows_by an_knows_by : Option Addr} {sl_knows_by : Array (Option Value)} {oc_knows_by kV_knows_by dc_knows_by pm_knows_by cd_knows_by ct_knows_by : Value}
    {f_all_know_once : Addr} {od_all_know_once an_all_know_once : Option Addr} {sl_all_know_once : Array (Option Value)} {oc_all_know_once kV_all_know_once dc_all_know_once pm_all_know_once cd_all_know_once ct_all_know_once : Value}
    {f_all_know_by : Addr} {od_all_know_by an_all_know_by : Option Addr} {sl_all_know_by : Array (Option Value)} {oc_all_know_by kV_all_know_by dc_all_know_by pm_all_know_by cd_all_know_by ct_all_know_by : Value}
    {f_for_ever_by : Addr} {od_for_ever_by an_for_ever_by : Option Addr} {sl_for_ever_by : Array (Option Value)} {oc_for_ever_by kV_for_ever_by dc_for_ever_by pm_for_ever_by cd_for_ever_by ct_for_ever_by : Value}
    {f_depth_by : Addr} {od_depth_by an_depth_by : Option Addr} {sl_depth_by : Array (Option Value)} {oc_depth_by kV_depth_by dc_depth_by pm_depth_by cd_depth_by ct_depth_by : Value}
    {f_pooled_by : Addr} {od_pooled_by an_pooled_by : Option Addr} {sl_pooled_by : Array (Option Value)} {oc_pooled_by kV_pooled_by dc_pooled_by pm_pooled_by cd_pooled_by ct_pooled_by : Value}
    {f_is_finer_by : Addr} {od_is_finer_by an_is_finer_by : Option Addr} {sl_is_finer_by : Array (Option Value)} {oc_is_finer_by kV_is_finer_by dc_is_finer_by pm_is_finer_by cd_is_finer_by ct_is_finer_by : Value}
    {f_is_times : Addr} {od_is_times an_is_times : Option Addr} {sl_is_times : Array (Option Value)} {oc_is_times kV_is_times dc_is_times pm_is_times cd_is_times ct_is_times : Value}
    {f_check_known : Addr} {od_check_known an_check_known : Option Addr} {sl_check_known : Array (Option Value)} {oc_check_known kV_check_known dc_check_known pm_check_known cd_check_known ct_check_known : Value}
    {f_knows : Addr} {od_knows an_knows : Option Addr} {sl_knows : Array (Option Value)} {oc_knows kV_knows dc_knows pm_knows cd_knows ct_knows : Value}
    {f_all_know : Addr} {od_all_know an_all_know : Option Addr} {sl_all_know : Array (Option Value)} {oc_all_know kV_all_know dc_all_know pm_all_know cd_all_know ct_all_know : Value}
    {f_for_ever : Addr} {od_for_ever an_for_ever : Option Addr} {sl_for_ever : Array (Option Value)} {oc_for_ever kV_for_ever dc_for_ever pm_for_ever cd_for_ever ct_for_ever : Value}
    {f_depth : Addr} {od_depth an_depth : Option Addr} {sl_depth : Array (Option Value)} {oc_depth kV_depth dc_depth pm_depth cd_depth ct_depth : Value}
    {f_pooled : Addr} {od_pooled an_pooled : Option Addr} {sl_pooled : Array (Option Value)} {oc_pooled kV_pooled dc_pooled pm_pooled cd_pooled ct_pooled : Value}
    {f_is_finer : Addr} {od_is_finer an_is_finer : Option Addr} {sl_is_finer : Array (Option Value)} {oc_is_finer kV_is_finer dc_is_finer pm_is_finer cd_is_finer ct_is_finer : Value}
    {f__law_pool : Addr} {od__law_pool an__law_pool : Option Addr} {sl__law_pool : Array (Option Value)} {oc__law_pool kV__law_pool dc__law_pool pm__law_pool cd__law_pool ct__law_pool : Value}
    {f__law_take : Addr} {od__law_take an__law_take : Option Addr} {sl__law_take : Array (Option Value)} {oc__law_take kV__law_take dc__law_take pm__law_take cd__law_take ct__law_take : Value}
    {f__law_of : Addr} {od__law_of an__law_of : Option Addr} {sl__law_of : Array (Option Value)} {oc__law_of kV__law_of dc__law_of pm__law_of cd__law_of ct__law_of : Value}
    {f__law_lowest : Addr} {od__law_lowest an__law_lowest : Option Addr} {sl__law_lowest : Array (Option Value)} {oc__law_lowest kV__law_lowest dc__law_lowest pm__law_lowest cd__law_lowest ct__law_lowest : Value}
    {f__law_parts : Addr} {od__law_parts an__law_parts : Option Addr} {sl__law_parts : Array (Option Value)} {oc__law_parts kV__law_parts dc__law_parts pm__law_parts cd__law_parts ct__law_parts : Value}
    {f__law_hall : Addr} {od__law_hall an__law_hall : Option Addr} {sl__law_hall : Array (Option Value)} {oc__law_hall kV__law_hall dc__law_hall pm__law_hall cd__law_hall ct__law_hall : Value}
    {f__law_made : Addr} {od__law_made an__law_made : Option Addr} {sl__law_made : Array (Option Value)} {oc__law_made kV__law_made dc__law_made pm__law_made cd__law_made ct__law_made : Value}
    {f__law_lot : Addr} {od__law_lot an__law_lot : Option Addr} {sl__law_lot : Array (Option Value)} {oc__law_lot kV__law_lot dc__law_lot pm__law_lot cd__law_lot ct__law_lot : Value}
    {f__law_lots_right : Addr} {od__law_lots_right an__law_lots_right : Option Addr} {sl__law_lots_right : Array (Option Value)} {oc__law_lots_right kV__law_lots_right dc__law_lots_right pm__law_lots_right cd__law_lots_right ct__law_lots_right : Value}
    {f__law_right : Addr} {od__law_right an__law_right : Option Addr} {sl__law_right : Array (Option Value)} {oc__law_right kV__law_right dc__law_right pm__law_right cd__law_right ct__law_right : Value}
    {f_law : Addr} {od_law an_law : Option Addr} {sl_law : Array (Option Value)} {oc_law kV_law dc_law pm_law cd_law ct_law : Value}
    {A_ZERO : Addr} {sl_ZERO : Array (Option Value)} {n_ZERO : Nat} {tk_ZERO_0 : Tok} {tk_ZERO_1 : Tok}
    {tk_FEWEST_CASES : Tok}
    {tk_MOST_CASES : Tok}
    {A_ONE : Addr} {sl_ONE : Array (Option Value)} {n_ONE : Nat} {tk_ONE_0 : Tok} {tk_ONE_1 : Tok}
    {tk_MOST_PERSONS : Tok}
    {tk_MOST_TIMES : Tok}
    {C_Hall : Addr}
    {C_Tree : Addr}
    {c0_wrong_telling P0_wrong_telling : Addr}
    (a_is_whole : PySem.W.nsIn K mainGlobals "is_whole" = some (some (.ref f_is_whole)))
    (l_is_whole : K.lookup f_is_whole = some ⟨oc_is_whole, od_is_whole, .func (PySem.W.fnOf "is_whole" "is_whole" (defArgs s_is_whole) (defBody s_is_whole) (defScope s_is_whole) .none kV_is_whole dc_is_whole pm_is_whole an_is_whole cd_is_whole ct_is_whole), sl_is_whole⟩)
    (e_is_whole : PySem.W.codeIn K cd_is_whole "is_whole" = true)
    (k_is_whole : PySem.W.keepIn K (.ref f_is_whole) = true)
    (a_is_number : PySem.W.nsIn K mainGlobals "is_number" = some (some (.ref f_is_number)))
    (l_is_number : K.lookup f_is_number = some ⟨oc_is_number, od_is_number, .func (PySem.W.fnOf "is_number" "is_number" (defArgs s_is_number) (defBody s_is_number) (defScope s_is_number) (.ref T_is_number) kV_is_number dc_is_number pm_is_number an_is_number cd_is_number ct_is_number), sl_is_number⟩)
    (e_is_number : PySem.W.codeIn K cd_is_number "is_number" = true)
    (k_is_number : PySem.W.keepIn K (.ref f_is_number) = true)
    (t_is_number : K.lookup T_is_number = some ⟨.type "tuple", od_is_number_t, .seq #[.int 0 tk_is_number_0, .none] Tn_is_number, sl_is_number_t⟩)
    (a_is_between : PySem.W.nsIn K mainGlobals "is_between" = some (some (.ref f_is_between)))
    (l_is_between : K.lookup f_is_between = some ⟨oc_is_between, od_is_between, .func (PySem.W.fnOf "is_between" "is_between" (defArgs s_is_between) (defBody s_is_between) (defScope s_is_between) .none kV_is_between dc_is_between pm_is_between an_is_between cd_is_between ct_is_between), sl_is_between⟩)
    (e_is_between : PySem.W.codeIn K cd_is_between "is_between" = true)
    (k_is_between : PySem.W.keepIn K (.ref f_is_between) = true)
    (a_is_tuple_of : PySem.W.nsIn K mainGlobals "is_tuple_of" = some (some (.ref f_is_tuple_of)))
    (l_is_tuple_of : K.lookup f_is_tuple_of = some ⟨oc_is_tuple_of, od_is_tuple_of, .func (PySem.W.fnOf "is_tuple_of" "is_tuple_of" (defArgs s_is_tuple_of) (defBody s_is_tuple_of) (defScope s_is_tuple_of) .none kV_is_tuple_of dc_is_tuple_of pm_is_tuple_of an_is_tuple_of cd_is_tuple_of ct_is_tuple_of), sl_is_tuple_of⟩)
    (e_is_tuple_of : PySem.W.codeIn K cd_is_tuple_of "is_tuple_of" = true)
    (k_is_tuple_of : PySem.W.keepIn K (.ref f_is_tuple_of) = true)
    (a_is_row : PySem.W.nsIn K mainGlobals "is_row" = some (some (.ref f_is_row)))
    (l_is_row : K.lookup f_is_row = some ⟨oc_is_row, od_is_row, .func (PySem.W.fnOf "is_row" "is_row" (defArgs s_is_row) (defBody s_is_row) (defScope s_is_row) .none kV_is_row dc_is_row pm_is_row an_is_row cd_is_row ct_is_row), sl_is_row⟩)
    (e_is_row : PySem.W.codeIn K cd_is_row "is_row" = true)
    (k_is_row : PySem.W.keepIn K (.ref f_is_row) = true)
    (a_first_wrong : PySem.W.nsIn K mainGlobals "first_wrong" = some (some (.ref f_first_wrong)))
    (l_first_wrong : K.lookup f_first_wrong = some ⟨oc_first_wrong, od_first_wrong, .func (PySem.W.fnOf "first_wrong" "first_wrong" (defArgs s_first_wrong) (defBody s_first_wrong) (defScope s_first_wrong) .none kV_first_wrong dc_first_wrong pm_first_wrong an_first_wrong cd_first_wrong ct_first_wrong), sl_first_wrong⟩)
    (e_first_wrong : PySem.W.codeIn K cd_first_wrong "first_wrong" = true)
    (k_first_wrong : PySem.W.keepIn K (.ref f_first_wrong) = true)
    (a_lowest : PySem.W.nsIn K mainGlobals "lowest" = some (some (.ref f_lowest)))
    (l_lowest : K.lookup f_lowest = some ⟨oc_lowest, od_lowest, .func (PySem.W.fnOf "lowest" "lowest" (defArgs s_lowest) (defBody s_lowest) (defScope s_lowest) .none kV_lowest dc_lowest pm_lowest an_lowest cd_lowest ct_lowest), sl_lowest⟩)
    (e_lowest : PySem.W.codeIn K cd_lowest "lowest" = true)
    (k_lowest : PySem.W.keepIn K (.ref f_lowest) = true)
    (a_is_fraction : PySem.W.nsIn K mainGlobals "is_fraction" = some (some (.ref f_is_fraction)))
    (l_is_fraction : K.lookup f_is_fraction = some ⟨oc_is_fraction, od_is_fraction, .func (PySem.W.fnOf "is_fraction" "is_fraction" (defArgs s_is_fraction) (defBody s_is_fraction) (defScope s_is_fraction) .none kV_is_fraction dc_is_fraction pm_is_fraction an_is_fraction cd_is_fraction ct_is_fraction), sl_is_fraction⟩)
    (e_is_fraction : PySem.W.codeIn K cd_is_fraction "is_fraction" = true)
    (k_is_fraction : PySem.W.keepIn K (.ref f_is_fraction) = true)
    (a_plus : PySem.W.nsIn K mainGlobals "plus" = some (some (.ref f_plus)))
    (l_plus : K.lookup f_plus = some ⟨oc_plus, od_plus, .func (PySem.W.fnOf "plus" "plus" (defArgs s_plus) (defBody s_plus) (defScope s_plus) .none kV_plus dc_plus pm_plus an_plus cd_plus ct_plus), sl_plus⟩)
    (e_plus : PySem.W.codeIn K cd_plus "plus" = true)
    (k_plus : PySem.W.keepIn K (.ref f_plus) = true)
    (a_times : PySem.W.nsIn K mainGlobals "times" = some (some (.ref f_times)))
    (l_times : K.lookup f_times = some ⟨oc_times, od_times, .func (PySem.W.fnOf "times" "times" (defArgs s_times) (defBody s_times) (defScope s_times) .none kV_times dc_times pm_times an_times cd_times ct_times), sl_times⟩)
    (e_times : PySem.W.codeIn K cd_times "times" = true)
    (k_times : PySem.W.keepIn K (.ref f_times) = true)
    (a_divided : PySem.W.nsIn K mainGlobals "divided" = some (some (.ref f_divided)))
    (l_divided : K.lookup f_divided = some ⟨oc_divided, od_divided, .func (PySem.W.fnOf "divided" "divided" (defArgs s_divided) (defBody s_divided) (defScope s_divided) .none kV_divided dc_divided pm_divided an_divided cd_divided ct_divided), sl_divided⟩)
    (e_divided : PySem.W.codeIn K cd_divided "divided" = true)
    (k_divided : PySem.W.keepIn K (.ref f_divided) = true)
    (a_sum_of : PySem.W.nsIn K mainGlobals "sum_of" = some (some (.ref f_sum_of)))
    (l_sum_of : K.lookup f_sum_of = some ⟨oc_sum_of, od_sum_of, .func (PySem.W.fnOf "sum_of" "sum_of" (defArgs s_sum_of) (defBody s_sum_of) (defScope s_sum_of) .none kV_sum_of dc_sum_of pm_sum_of an_sum_of cd_sum_of ct_sum_of), sl_sum_of⟩)
    (e_sum_of : PySem.W.codeIn K cd_sum_of "sum_of" = true)
    (k_sum_of : PySem.W.keepIn K (.ref f_sum_of) = true)
    (a_is_cases : PySem.W.nsIn K mainGlobals "is_cases" = some (some (.ref f_is_cases)))
    (l_is_cases : K.lookup f_is_cases = some ⟨oc_is_cases, od_is_cases, .func (PySem.W.fnOf "is_cases" "is_cases" (defArgs s_is_cases) (defBody s_is_cases) (defScope s_is_cases) .none kV_is_cases dc_is_cases pm_is_cases an_is_cases cd_is_cases ct_is_cases), sl_is_cases⟩)
    (e_is_cases : PySem.W.codeIn K cd_is_cases "is_cases" = true)
    (k_is_cases : PySem.W.keepIn K (.ref f_is_cases) = true)
    (a_is_lot_of : PySem.W.nsIn K mainGlobals "is_lot_of" = some (some (.ref f_is_lot_of)))
    (l_is_lot_of : K.lookup f_is_lot_of = some ⟨oc_is_lot_of, od_is_lot_of, .func (PySem.W.fnOf "is_lot_of" "is_lot_of" (defArgs s_is_lot_of) (defBody s_is_lot_of) (defScope s_is_lot_of) .none kV_is_lot_of dc_is_lot_of pm_is_lot_of an_is_lot_of cd_is_lot_of ct_is_lot_of), sl_is_lot_of⟩)
    (e_is_lot_of : PySem.W.codeIn K cd_is_lot_of "is_lot_of" = true)
    (k_is_lot_of : PySem.W.keepIn K (.ref f_is_lot_of) = true)
    (a_are_chances : PySem.W.nsIn K mainGlobals "are_chances" = some (some (.ref f_are_chances)))
    (l_are_chances : K.lookup f_are_chances = some ⟨oc_are_chances, od_are_chances, .func (PySem.W.fnOf "are_chances" "are_chances" (defArgs s_are_chances) (defBody s_are_chances) (defScope s_are_chances) .none kV_are_chances dc_are_chances pm_are_chances an_are_chances cd_are_chances ct_are_chances), sl_are_chances⟩)
    (e_are_chances : PySem.W.codeIn K cd_are_chances "are_chances" = true)
    (k_are_chances : PySem.W.keepIn K (.ref f_are_chances) = true)
    (a_is_part : PySem.W.nsIn K mainGlobals "is_part" = some (some (.ref f_is_part)))
    (l_is_part : K.lookup f_is_part = some ⟨oc_is_part, od_is_part, .func (PySem.W.fnOf "is_part" "is_part" (defArgs s_is_part) (defBody s_is_part) (defScope s_is_part) .none kV_is_part dc_is_part pm_is_part an_is_part cd_is_part ct_is_part), sl_is_part⟩)
    (e_is_part : PySem.W.codeIn K cd_is_part "is_part" = true)
    (k_is_part : PySem.W.keepIn K (.ref f_is_part) = true)
    (a_is_telling : PySem.W.nsIn K mainGlobals "is_telling" = some (some (.ref f_is_telling)))
    (l_is_telling : K.lookup f_is_telling = some ⟨oc_is_telling, od_is_telling, .func (PySem.W.fnOf "is_telling" "is_telling" (defArgs s_is_telling) (defBody s_is_telling) (defScope s_is_telling) .none kV_is_telling dc_is_telling pm_is_telling an_is_telling cd_is_telling ct_is_telling), sl_is_telling⟩)
    (e_is_telling : PySem.W.codeIn K cd_is_telling "is_telling" = true)
    (k_is_telling : PySem.W.keepIn K (.ref f_is_telling) = true)
    (a_wrong_telling : PySem.W.nsIn K mainGlobals "wrong_telling" = some (some (.ref f_wrong_telling)))
    (l_wrong_telling : K.lookup f_wrong_telling = some ⟨oc_wrong_telling, od_wrong_telling, .func (PySem.W.fnOf "wrong_telling" "wrong_telling" (defArgs s_wrong_telling) (defBody s_wrong_telling) (defScope s_wrong_telling) .none kV_wrong_telling dc_wrong_telling pm_wrong_telling an_wrong_telling cd_wrong_telling ct_wrong_telling), sl_wrong_telling⟩)
    (e_wrong_telling : PySem.W.codeIn K cd_wrong_telling "wrong_telling" = true)
    (k_wrong_telling : PySem.W.keepIn K (.ref f_wrong_telling) = true)
    (a_check_tellings : PySem.W.nsIn K mainGlobals "check_tellings" = some (some (.ref f_check_tellings)))
    (l_check_tellings : K.lookup f_check_tellings = some ⟨oc_check_tellings, od_check_tellings, .func (PySem.W.fnOf "check_tellings" "check_tellings" (defArgs s_check_tellings) (defBody s_check_tellings) (defScope s_check_tellings) .none kV_check_tellings dc_check_tellings pm_check_tellings an_check_tellings cd_check_tellings ct_check_tellings), sl_check_tellings⟩)
    (e_check_tellings : PySem.W.codeIn K cd_check_tellings "check_tellings" = true)
    (k_check_tellings : PySem.W.keepIn K (.ref f_check_tellings) = true)
    (l_Hall_init : K.lookup f_Hall_init = some ⟨oc_Hall_init, od_Hall_init, .func (PySem.W.fnOf "__init__" "Hall.__init__" (defArgs s_Hall_init) (defBody s_Hall_init) (defScope s_Hall_init) .none kV_Hall_init dc_Hall_init pm_Hall_init an_Hall_init cd_Hall_init ct_Hall_init), sl_Hall_init⟩)
    (e_Hall_init : PySem.W.codeIn K cd_Hall_init "Hall.__init__" = true)
    (k_Hall_init : PySem.W.keepIn K (.ref f_Hall_init) = true)
    (a_check_hall : PySem.W.nsIn K mainGlobals "check_hall" = some (some (.ref f_check_hall)))
    (l_check_hall : K.lookup f_check_hall = some ⟨oc_check_hall, od_check_hall, .func (PySem.W.fnOf "check_hall" "check_hall" (defArgs s_check_hall) (defBody s_check_hall) (defScope s_check_hall) .none kV_check_hall dc_check_hall pm_check_hall an_check_hall cd_check_hall ct_check_hall), sl_check_hall⟩)
    (e_check_hall : PySem.W.codeIn K cd_check_hall "check_hall" = true)
    (k_check_hall : PySem.W.keepIn K (.ref f_check_hall) = true)
    (a_cases_of : PySem.W.nsIn K mainGlobals "cases_of" = some (some (.ref f_cases_of)))
    (l_cases_of : K.lookup f_cases_of = some ⟨oc_cases_of, od_cases_of, .func (PySem.W.fnOf "cases_of" "cases_of" (defArgs s_cases_of) (defBody s_cases_of) (defScope s_cases_of) .none kV_cases_of dc_cases_of pm_cases_of an_cases_of cd_cases_of ct_cases_of), sl_cases_of⟩)
    (e_cases_of : PySem.W.codeIn K cd_cases_of "cases_of" = true)
    (k_cases_of : PySem.W.keepIn K (.ref f_cases_of) = true)
    (a_persons_of : PySem.W.nsIn K mainGlobals "persons_of" = some (some (.ref f_persons_of)))
    (l_persons_of : K.lookup f_persons_of = some ⟨oc_persons_of, od_persons_of, .func (PySem.W.fnOf "persons_of" "persons_of" (defArgs s_persons_of) (defBody s_persons_of) (defScope s_persons_of) .none kV_persons_of dc_persons_of pm_persons_of an_persons_of cd_persons_of ct_persons_of), sl_persons_of⟩)
    (e_persons_of : PySem.W.codeIn K cd_persons_of "persons_of" = true)
    (k_persons_of : PySem.W.keepIn K (.ref f_persons_of) = true)
    (a_is_case : PySem.W.nsIn K mainGlobals "is_case" = some (some (.ref f_is_case)))
    (l_is_case : K.lookup f_is_case = some ⟨oc_is_case, od_is_case, .func (PySem.W.fnOf "is_case" "is_case" (defArgs s_is_case) (defBody s_is_case) (defScope s_is_case) .none kV_is_case dc_is_case pm_is_case an_is_case cd_is_case ct_is_case), sl_is_case⟩)
    (e_is_case : PySem.W.codeIn K cd_is_case "is_case" = true)
    (k_is_case : PySem.W.keepIn K (.ref f_is_case) = true)
    (a_check_case : PySem.W.nsIn K mainGlobals "check_case" = some (some (.ref f_check_case)))
    (l_check_case : K.lookup f_check_case = some ⟨oc_check_case, od_check_case, .func (PySem.W.fnOf "check_case" "check_case" (defArgs s_check_case) (defBody s_check_case) (defScope s_check_case) .none kV_check_case dc_check_case pm_check_case an_check_case cd_check_case ct_check_case), sl_check_case⟩)
    (e_check_case : PySem.W.codeIn K cd_check_case "check_case" = true)
    (k_check_case : PySem.W.keepIn K (.ref f_check_case) = true)
    (a_is_person : PySem.W.nsIn K mainGlobals "is_person" = some (some (.ref f_is_person)))
    (l_is_person : K.lookup f_is_person = some ⟨oc_is_person, od_is_person, .func (PySem.W.fnOf "is_person" "is_person" (defArgs s_is_person) (defBody s_is_person) (defScope s_is_person) .none kV_is_person dc_is_person pm_is_person an_is_person cd_is_person ct_is_person), sl_is_person⟩)
    (e_is_person : PySem.W.codeIn K cd_is_person "is_person" = true)
    (k_is_person : PySem.W.keepIn K (.ref f_is_person) = true)
    (a_check_person : PySem.W.nsIn K mainGlobals "check_person" = some (some (.ref f_check_person)))
    (l_check_person : K.lookup f_check_person = some ⟨oc_check_person, od_check_person, .func (PySem.W.fnOf "check_person" "check_person" (defArgs s_check_person) (defBody s_check_person) (defScope s_check_person) .none kV_check_person dc_check_person pm_check_person an_check_person cd_check_person ct_check_person), sl_check_person⟩)
    (e_check_person : PySem.W.codeIn K cd_check_person "check_person" = true)
    (k_check_person : PySem.W.keepIn K (.ref f_check_person) = true)
    (a_is_lot : PySem.W.nsIn K mainGlobals "is_lot" = some (some (.ref f_is_lot)))
    (l_is_lot : K.lookup f_is_lot = some ⟨oc_is_lot, od_is_lot, .func (PySem.W.fnOf "is_lot" "is_lot" (defArgs s_is_lot) (defBody s_is_lot) (defScope s_is_lot) .none kV_is_lot dc_is_lot pm_is_lot an_is_lot cd_is_lot ct_is_lot), sl_is_lot⟩)
    (e_is_lot : PySem.W.codeIn K cd_is_lot "is_lot" = true)
    (k_is_lot : PySem.W.keepIn K (.ref f_is_lot) = true)
    (a_check_lot : PySem.W.nsIn K mainGlobals "check_lot" = some (some (.ref f_check_lot)))
    (l_check_lot : K.lookup f_check_lot = some ⟨oc_check_lot, od_check_lot, .func (PySem.W.fnOf "check_lot" "check_lot" (defArgs s_check_lot) (defBody s_check_lot) (defScope s_check_lot) .none kV_check_lot dc_check_lot pm_check_lot an_check_lot cd_check_lot ct_check_lot), sl_check_lot⟩)
    (e_check_lot : PySem.W.codeIn K cd_check_lot "check_lot" = true)
    (k_check_lot : PySem.W.keepIn K (.ref f_check_lot) = true)
    (a_part_at : PySem.W.nsIn K mainGlobals "part_at" = some (some (.ref f_part_at)))
    (l_part_at : K.lookup f_part_at = some ⟨oc_part_at, od_part_at, .func (PySem.W.fnOf "part_at" "part_at" (defArgs s_part_at) (defBody s_part_at) (defScope s_part_at) .none kV_part_at dc_part_at pm_part_at an_part_at cd_part_at ct_part_at), sl_part_at⟩)
    (e_part_at : PySem.W.codeIn K cd_part_at "part_at" = true)
    (k_part_at : PySem.W.keepIn K (.ref f_part_at) = true)
    (a_seen_by : PySem.W.nsIn K mainGlobals "seen_by" = some (some (.ref f_seen_by)))
    (l_seen_by : K.lookup f_seen_by = some ⟨oc_seen_by, od_seen_by, .func (PySem.W.fnOf "seen_by" "seen_by" (defArgs s_seen_by) (defBody s_seen_by) (defScope s_seen_by) .none kV_seen_by dc_seen_by pm_seen_by an_seen_by cd_seen_by ct_seen_by), sl_seen_by⟩)
    (e_seen_by : PySem.W.codeIn K cd_seen_by "seen_by" = true)
    (k_seen_by : PySem.W.keepIn K (.ref f_seen_by) = true)
    (a_told_of : PySem.W.nsIn K mainGlobals "told_of" = some (some (.ref f_told_of)))
    (l_told_of : K.lookup f_told_of = some ⟨oc_told_of, od_told_of, .func (PySem.W.fnOf "told_of" "told_of" (defArgs s_told_of) (defBody s_told_of) (defScope s_told_of) .none kV_told_of dc_told_of pm_told_of an_told_of cd_told_of ct_told_of), sl_told_of⟩)
    (e_told_of : PySem.W.codeIn K cd_told_of "told_of" = true)
    (k_told_of : PySem.W.keepIn K (.ref f_told_of) = true)
    (a_seen : PySem.W.nsIn K mainGlobals "seen" = some (some (.ref f_seen)))
    (l_seen : K.lookup f_seen = some ⟨oc_seen, od_seen, .func (PySem.W.fnOf "seen" "seen" (defArgs s_seen) (defBody s_seen) (defScope s_seen) .none kV_seen dc_seen pm_seen an_seen cd_seen ct_seen), sl_seen⟩)
    (e_seen : PySem.W.codeIn K cd_seen "seen" = true)
    (k_seen : PySem.W.keepIn K (.ref f_seen) = true)
    (a_tied_with : PySem.W.nsIn K mainGlobals "tied_with" = some (some (.ref f_tied_with)))
    (l_tied_with : K.lookup f_tied_with = some ⟨oc_tied_with, od_tied_with, .func (PySem.W.fnOf "tied_with" "tied_with" (defArgs s_tied_with) (defBody s_tied_with) (defScope s_tied_with) .none kV_tied_with dc_tied_with pm_tied_with an_tied_with cd_tied_with ct_tied_with), sl_tied_with⟩)
    (e_tied_with : PySem.W.codeIn K cd_tied_with "tied_with" = true)
    (k_tied_with : PySem.W.keepIn K (.ref f_tied_with) = true)
    (a_quotient : PySem.W.nsIn K mainGlobals "quotient" = some (some (.ref f_quotient)))
    (l_quotient : K.lookup f_quotient = some ⟨oc_quotient, od_quotient, .func (PySem.W.fnOf "quotient" "quotient" (defArgs s_quotient) (defBody s_quotient) (defScope s_quotient) .none kV_quotient dc_quotient pm_quotient an_quotient cd_quotient ct_quotient), sl_quotient⟩)
    (e_quotient : PySem.W.codeIn K cd_quotient "quotient" = true)
    (k_quotient : PySem.W.keepIn K (.ref f_quotient) = true)
    (l_Tree_init : K.lookup f_Tree_init = some ⟨oc_Tree_init, od_Tree_init, .func (PySem.W.fnOf "__init__" "Tree.__init__" (defArgs s_Tree_init) (defBody s_Tree_init) (defScope s_Tree_init) .none kV_Tree_init dc_Tree_init pm_Tree_init an_Tree_init cd_Tree_init ct_Tree_init), sl_Tree_init⟩)
    (e_Tree_init : PySem.W.codeIn K cd_Tree_init "Tree.__init__" = true)
    (k_Tree_init : PySem.W.keepIn K (.ref f_Tree_init) = true)
    (a_pieces_by : PySem.W.nsIn K mainGlobals "pieces_by" = some (some (.ref f_pieces_by)))
    (l_pieces_by : K.lookup f_pieces_by = some ⟨oc_pieces_by, od_pieces_by, .func (PySem.W.fnOf "pieces_by" "pieces_by" (defArgs s_pieces_by) (defBody s_pieces_by) (defScope s_pieces_by) .none kV_pieces_by dc_pieces_by pm_pieces_by an_pieces_by cd_pieces_by ct_pieces_by), sl_pieces_by⟩)
    (e_pieces_by : PySem.W.codeIn K cd_pieces_by "pieces_by" = true)
    (k_pieces_by : PySem.W.keepIn K (.ref f_pieces_by) = true)
    (a_pieces : PySem.W.nsIn K mainGlobals "pieces" = some (some (.ref f_pieces)))
    (l_pieces : K.lookup f_pieces = some ⟨oc_pieces, od_pieces, .func (PySem.W.fnOf "pieces" "pieces" (defArgs s_pieces) (defBody s_pieces) (defScope s_pieces) .none kV_pieces dc_pieces pm_pieces an_pieces cd_pieces ct_pieces), sl_pieces⟩)
    (e_pieces : PySem.W.codeIn K cd_pieces "pieces" = true)
    (k_pieces : PySem.W.keepIn K (.ref f_pieces) = true)
    (a_is_within : PySem.W.nsIn K mainGlobals "is_within" = some (some (.ref f_is_within)))
    (l_is_within : K.lookup f_is_within = some ⟨oc_is_within, od_is_within, .func (PySem.W.fnOf "is_within" "is_within" (defArgs s_is_within) (defBody s_is_within) (defScope s_is_within) .none kV_is_within dc_is_within pm_is_within an_is_within cd_is_within ct_is_within), sl_is_within⟩)
    (e_is_within : PySem.W.codeIn K cd_is_within "is_within" = true)
    (k_is_within : PySem.W.keepIn K (.ref f_is_within) = true)
    (a_knows_by : PySem.W.nsIn K mainGlobals "knows_by" = some (some (.ref f_knows_by)))
    (l_knows_by : K.lookup f_knows_by = some ⟨oc_knows_by, od_knows_by, .func (PySem.W.fnOf "knows_by" "knows_by" (defArgs s_knows_by) (defBody s_knows_by) (defScope s_knows_by) .none kV_knows_by dc_knows_by pm_knows_by an_knows_by cd_knows_by ct_knows_by), sl_knows_by⟩)
    (e_knows_by : PySem.W.codeIn K cd_knows_by "knows_by" = true)
    (k_knows_by : PySem.W.keepIn K (.ref f_knows_by) = true)
    (a_all_know_once : PySem.W.nsIn K mainGlobals "all_know_once" = some (some (.ref f_all_know_once)))
    (l_all_know_once : K.lookup f_all_know_once = some ⟨oc_all_know_once, od_all_know_once, .func (PySem.W.fnOf "all_know_once" "all_know_once" (defArgs s_all_know_once) (defBody s_all_know_once) (defScope s_all_know_once) .none kV_all_know_once dc_all_know_once pm_all_know_once an_all_know_once cd_all_know_once ct_all_know_once), sl_all_know_once⟩)
    (e_all_know_once : PySem.W.codeIn K cd_all_know_once "all_know_once" = true)
    (k_all_know_once : PySem.W.keepIn K (.ref f_all_know_once) = true)
    (a_all_know_by : PySem.W.nsIn K mainGlobals "all_know_by" = some (some (.ref f_all_know_by)))
    (l_all_know_by : K.lookup f_all_know_by = some ⟨oc_all_know_by, od_all_know_by, .func (PySem.W.fnOf "all_know_by" "all_know_by" (defArgs s_all_know_by) (defBody s_all_know_by) (defScope s_all_know_by) .none kV_all_know_by dc_all_know_by pm_all_know_by an_all_know_by cd_all_know_by ct_all_know_by), sl_all_know_by⟩)
    (e_all_know_by : PySem.W.codeIn K cd_all_know_by "all_know_by" = true)
    (k_all_know_by : PySem.W.keepIn K (.ref f_all_know_by) = true)
    (a_for_ever_by : PySem.W.nsIn K mainGlobals "for_ever_by" = some (some (.ref f_for_ever_by)))
    (l_for_ever_by : K.lookup f_for_ever_by = some ⟨oc_for_ever_by, od_for_ever_by, .func (PySem.W.fnOf "for_ever_by" "for_ever_by" (defArgs s_for_ever_by) (defBody s_for_ever_by) (defScope s_for_ever_by) .none kV_for_ever_by dc_for_ever_by pm_for_ever_by an_for_ever_by cd_for_ever_by ct_for_ever_by), sl_for_ever_by⟩)
    (e_for_ever_by : PySem.W.codeIn K cd_for_ever_by "for_ever_by" = true)
    (k_for_ever_by : PySem.W.keepIn K (.ref f_for_ever_by) = true)
    (a_depth_by : PySem.W.nsIn K mainGlobals "depth_by" = some (some (.ref f_depth_by)))
    (l_depth_by : K.lookup f_depth_by = some ⟨oc_depth_by, od_depth_by, .func (PySem.W.fnOf "depth_by" "depth_by" (defArgs s_depth_by) (defBody s_depth_by) (defScope s_depth_by) .none kV_depth_by dc_depth_by pm_depth_by an_depth_by cd_depth_by ct_depth_by), sl_depth_by⟩)
    (e_depth_by : PySem.W.codeIn K cd_depth_by "depth_by" = true)
    (k_depth_by : PySem.W.keepIn K (.ref f_depth_by) = true)
    (a_pooled_by : PySem.W.nsIn K mainGlobals "pooled_by" = some (some (.ref f_pooled_by)))
    (l_pooled_by : K.lookup f_pooled_by = some ⟨oc_pooled_by, od_pooled_by, .func (PySem.W.fnOf "pooled_by" "pooled_by" (defArgs s_pooled_by) (defBody s_pooled_by) (defScope s_pooled_by) .none kV_pooled_by dc_pooled_by pm_pooled_by an_pooled_by cd_pooled_by ct_pooled_by), sl_pooled_by⟩)
    (e_pooled_by : PySem.W.codeIn K cd_pooled_by "pooled_by" = true)
    (k_pooled_by : PySem.W.keepIn K (.ref f_pooled_by) = true)
    (a_is_finer_by : PySem.W.nsIn K mainGlobals "is_finer_by" = some (some (.ref f_is_finer_by)))
    (l_is_finer_by : K.lookup f_is_finer_by = some ⟨oc_is_finer_by, od_is_finer_by, .func (PySem.W.fnOf "is_finer_by" "is_finer_by" (defArgs s_is_finer_by) (defBody s_is_finer_by) (defScope s_is_finer_by) .none kV_is_finer_by dc_is_finer_by pm_is_finer_by an_is_finer_by cd_is_finer_by ct_is_finer_by), sl_is_finer_by⟩)
    (e_is_finer_by : PySem.W.codeIn K cd_is_finer_by "is_finer_by" = true)
    (k_is_finer_by : PySem.W.keepIn K (.ref f_is_finer_by) = true)
    (a_is_times : PySem.W.nsIn K mainGlobals "is_times" = some (some (.ref f_is_times)))
    (l_is_times : K.lookup f_is_times = some ⟨oc_is_times, od_is_times, .func (PySem.W.fnOf "is_times" "is_times" (defArgs s_is_times) (defBody s_is_times) (defScope s_is_times) .none kV_is_times dc_is_times pm_is_times an_is_times cd_is_times ct_is_times), sl_is_times⟩)
    (e_is_times : PySem.W.codeIn K cd_is_times "is_times" = true)
    (k_is_times : PySem.W.keepIn K (.ref f_is_times) = true)
    (a_check_known : PySem.W.nsIn K mainGlobals "check_known" = some (some (.ref f_check_known)))
    (l_check_known : K.lookup f_check_known = some ⟨oc_check_known, od_check_known, .func (PySem.W.fnOf "check_known" "check_known" (defArgs s_check_known) (defBody s_check_known) (defScope s_check_known) .none kV_check_known dc_check_known pm_check_known an_check_known cd_check_known ct_check_known), sl_check_known⟩)
    (e_check_known : PySem.W.codeIn K cd_check_known "check_known" = true)
    (k_check_known : PySem.W.keepIn K (.ref f_check_known) = true)
    (a_knows : PySem.W.nsIn K mainGlobals "knows" = some (some (.ref f_knows)))
    (l_knows : K.lookup f_knows = some ⟨oc_knows, od_knows, .func (PySem.W.fnOf "knows" "knows" (defArgs s_knows) (defBody s_knows) (defScope s_knows) .none kV_knows dc_knows pm_knows an_knows cd_knows ct_knows), sl_knows⟩)
    (e_knows : PySem.W.codeIn K cd_knows "knows" = true)
    (k_knows : PySem.W.keepIn K (.ref f_knows) = true)
    (a_all_know : PySem.W.nsIn K mainGlobals "all_know" = some (some (.ref f_all_know)))
    (l_all_know : K.lookup f_all_know = some ⟨oc_all_know, od_all_know, .func (PySem.W.fnOf "all_know" "all_know" (defArgs s_all_know) (defBody s_all_know) (defScope s_all_know) .none kV_all_know dc_all_know pm_all_know an_all_know cd_all_know ct_all_know), sl_all_know⟩)
    (e_all_know : PySem.W.codeIn K cd_all_know "all_know" = true)
    (k_all_know : PySem.W.keepIn K (.ref f_all_know) = true)
    (a_for_ever : PySem.W.nsIn K mainGlobals "for_ever" = some (some (.ref f_for_ever)))
    (l_for_ever : K.lookup f_for_ever = some ⟨oc_for_ever, od_for_ever, .func (PySem.W.fnOf "for_ever" "for_ever" (defArgs s_for_ever) (defBody s_for_ever) (defScope s_for_ever) .none kV_for_ever dc_for_ever pm_for_ever an_for_ever cd_for_ever ct_for_ever), sl_for_ever⟩)
    (e_for_ever : PySem.W.codeIn K cd_for_ever "for_ever" = true)
    (k_for_ever : PySem.W.keepIn K (.ref f_for_ever) = true)
    (a_depth : PySem.W.nsIn K mainGlobals "depth" = some (some (.ref f_depth)))
    (l_depth : K.lookup f_depth = some ⟨oc_depth, od_depth, .func (PySem.W.fnOf "depth" "depth" (defArgs s_depth) (defBody s_depth) (defScope s_depth) .none kV_depth dc_depth pm_depth an_depth cd_depth ct_depth), sl_depth⟩)
    (e_depth : PySem.W.codeIn K cd_depth "depth" = true)
    (k_depth : PySem.W.keepIn K (.ref f_depth) = true)
    (a_pooled : PySem.W.nsIn K mainGlobals "pooled" = some (some (.ref f_pooled)))
    (l_pooled : K.lookup f_pooled = some ⟨oc_pooled, od_pooled, .func (PySem.W.fnOf "pooled" "pooled" (defArgs s_pooled) (defBody s_pooled) (defScope s_pooled) .none kV_pooled dc_pooled pm_pooled an_pooled cd_pooled ct_pooled), sl_pooled⟩)
    (e_pooled : PySem.W.codeIn K cd_pooled "pooled" = true)
    (k_pooled : PySem.W.keepIn K (.ref f_pooled) = true)
    (a_is_finer : PySem.W.nsIn K mainGlobals "is_finer" = some (some (.ref f_is_finer)))
    (l_is_finer : K.lookup f_is_finer = some ⟨oc_is_finer, od_is_finer, .func (PySem.W.fnOf "is_finer" "is_finer" (defArgs s_is_finer) (defBody s_is_finer) (defScope s_is_finer) .none kV_is_finer dc_is_finer pm_is_finer an_is_finer cd_is_finer ct_is_finer), sl_is_finer⟩)
    (e_is_finer : PySem.W.codeIn K cd_is_finer "is_finer" = true)
    (k_is_finer : PySem.W.keepIn K (.ref f_is_finer) = true)
    (a__law_pool : PySem.W.nsIn K mainGlobals "_law_pool" = some (some (.ref f__law_pool)))
    (l__law_pool : K.lookup f__law_pool = some ⟨oc__law_pool, od__law_pool, .func (PySem.W.fnOf "_law_pool" "_law_pool" (defArgs s__law_pool) (defBody s__law_pool) (defScope s__law_pool) .none kV__law_pool dc__law_pool pm__law_pool an__law_pool cd__law_pool ct__law_pool), sl__law_pool⟩)
    (e__law_pool : PySem.W.codeIn K cd__law_pool "_law_pool" = true)
    (k__law_pool : PySem.W.keepIn K (.ref f__law_pool) = true)
    (a__law_take : PySem.W.nsIn K mainGlobals "_law_take" = some (some (.ref f__law_take)))
    (l__law_take : K.lookup f__law_take = some ⟨oc__law_take, od__law_take, .func (PySem.W.fnOf "_law_take" "_law_take" (defArgs s__law_take) (defBody s__law_take) (defScope s__law_take) .none kV__law_take dc__law_take pm__law_take an__law_take cd__law_take ct__law_take), sl__law_take⟩)
    (e__law_take : PySem.W.codeIn K cd__law_take "_law_take" = true)
    (k__law_take : PySem.W.keepIn K (.ref f__law_take) = true)
    (a__law_of : PySem.W.nsIn K mainGlobals "_law_of" = some (some (.ref f__law_of)))
    (l__law_of : K.lookup f__law_of = some ⟨oc__law_of, od__law_of, .func (PySem.W.fnOf "_law_of" "_law_of" (defArgs s__law_of) (defBody s__law_of) (defScope s__law_of) .none kV__law_of dc__law_of pm__law_of an__law_of cd__law_of ct__law_of), sl__law_of⟩)
    (e__law_of : PySem.W.codeIn K cd__law_of "_law_of" = true)
    (k__law_of : PySem.W.keepIn K (.ref f__law_of) = true)
    (a__law_lowest : PySem.W.nsIn K mainGlobals "_law_lowest" = some (some (.ref f__law_lowest)))
    (l__law_lowest : K.lookup f__law_lowest = some ⟨oc__law_lowest, od__law_lowest, .func (PySem.W.fnOf "_law_lowest" "_law_lowest" (defArgs s__law_lowest) (defBody s__law_lowest) (defScope s__law_lowest) .none kV__law_lowest dc__law_lowest pm__law_lowest an__law_lowest cd__law_lowest ct__law_lowest), sl__law_lowest⟩)
    (e__law_lowest : PySem.W.codeIn K cd__law_lowest "_law_lowest" = true)
    (k__law_lowest : PySem.W.keepIn K (.ref f__law_lowest) = true)
    (a__law_parts : PySem.W.nsIn K mainGlobals "_law_parts" = some (some (.ref f__law_parts)))
    (l__law_parts : K.lookup f__law_parts = some ⟨oc__law_parts, od__law_parts, .func (PySem.W.fnOf "_law_parts" "_law_parts" (defArgs s__law_parts) (defBody s__law_parts) (defScope s__law_parts) .none kV__law_parts dc__law_parts pm__law_parts an__law_parts cd__law_parts ct__law_parts), sl__law_parts⟩)
    (e__law_parts : PySem.W.codeIn K cd__law_parts "_law_parts" = true)
    (k__law_parts : PySem.W.keepIn K (.ref f__law_parts) = true)
    (a__law_hall : PySem.W.nsIn K mainGlobals "_law_hall" = some (some (.ref f__law_hall)))
    (l__law_hall : K.lookup f__law_hall = some ⟨oc__law_hall, od__law_hall, .func (PySem.W.fnOf "_law_hall" "_law_hall" (defArgs s__law_hall) (defBody s__law_hall) (defScope s__law_hall) .none kV__law_hall dc__law_hall pm__law_hall an__law_hall cd__law_hall ct__law_hall), sl__law_hall⟩)
    (e__law_hall : PySem.W.codeIn K cd__law_hall "_law_hall" = true)
    (k__law_hall : PySem.W.keepIn K (.ref f__law_hall) = true)
    (a__law_made : PySem.W.nsIn K mainGlobals "_law_made" = some (some (.ref f__law_made)))
    (l__law_made : K.lookup f__law_made = some ⟨oc__law_made, od__law_made, .func (PySem.W.fnOf "_law_made" "_law_made" (defArgs s__law_made) (defBody s__law_made) (defScope s__law_made) .none kV__law_made dc__law_made pm__law_made an__law_made cd__law_made ct__law_made), sl__law_made⟩)
    (e__law_made : PySem.W.codeIn K cd__law_made "_law_made" = true)
    (k__law_made : PySem.W.keepIn K (.ref f__law_made) = true)
    (a__law_lot : PySem.W.nsIn K mainGlobals "_law_lot" = some (some (.ref f__law_lot)))
    (l__law_lot : K.lookup f__law_lot = some ⟨oc__law_lot, od__law_lot, .func (PySem.W.fnOf "_law_lot" "_law_lot" (defArgs s__law_lot) (defBody s__law_lot) (defScope s__law_lot) .none kV__law_lot dc__law_lot pm__law_lot an__law_lot cd__law_lot ct__law_lot), sl__law_lot⟩)
    (e__law_lot : PySem.W.codeIn K cd__law_lot "_law_lot" = true)
    (k__law_lot : PySem.W.keepIn K (.ref f__law_lot) = true)
    (a__law_lots_right : PySem.W.nsIn K mainGlobals "_law_lots_right" = some (some (.ref f__law_lots_right)))
    (l__law_lots_right : K.lookup f__law_lots_right = some ⟨oc__law_lots_right, od__law_lots_right, .func (PySem.W.fnOf "_law_lots_right" "_law_lots_right" (defArgs s__law_lots_right) (defBody s__law_lots_right) (defScope s__law_lots_right) .none kV__law_lots_right dc__law_lots_right pm__law_lots_right an__law_lots_right cd__law_lots_right ct__law_lots_right), sl__law_lots_right⟩)
    (e__law_lots_right : PySem.W.codeIn K cd__law_lots_right "_law_lots_right" = true)
    (k__law_lots_right : PySem.W.keepIn K (.ref f__law_lots_right) = true)
    (a__law_right : PySem.W.nsIn K mainGlobals "_law_right" = some (some (.ref f__law_right)))
    (l__law_right : K.lookup f__law_right = some ⟨oc__law_right, od__law_right, .func (PySem.W.fnOf "_law_right" "_law_right" (defArgs s__law_right) (defBody s__law_right) (defScope s__law_right) .none kV__law_right dc__law_right pm__law_right an__law_right cd__law_right ct__law_right), sl__law_right⟩)
    (e__law_right : PySem.W.codeIn K cd__law_right "_law_right" = true)
    (k__law_right : PySem.W.keepIn K (.ref f__law_right) = true)
    (a_law : PySem.W.nsIn K mainGlobals "law" = some (some (.ref f_law)))
    (l_law : K.lookup f_law = some ⟨oc_law, od_law, .func (PySem.W.fnOf "law" "law" (defArgs s_law) (defBody s_law) (defScope s_law) .none kV_law dc_law pm_law an_law cd_law ct_law), sl_law⟩)
    (e_law : PySem.W.codeIn K cd_law "law" = true)
    (k_law : PySem.W.keepIn K (.ref f_law) = true)
    (a_ZERO : PySem.W.nsIn K mainGlobals "ZERO" = some (some (.ref A_ZERO)))
    (l_ZERO : K.lookup A_ZERO = some ⟨.type "tuple", none, .seq #[.int 0 tk_ZERO_0, .int 1 tk_ZERO_1] n_ZERO, sl_ZERO⟩)
    (a_FEWEST_CASES : PySem.W.nsIn K mainGlobals "FEWEST_CASES" = some (some (.int 2 tk_FEWEST_CASES)))
    (a_MOST_CASES : PySem.W.nsIn K mainGlobals "MOST_CASES" = some (some (.int 6 tk_MOST_CASES)))
    (a_ONE : PySem.W.nsIn K mainGlobals "ONE" = some (some (.ref A_ONE)))
    (l_ONE : K.lookup A_ONE = some ⟨.type "tuple", none, .seq #[.int 1 tk_ONE_0, .int 1 tk_ONE_1] n_ONE, sl_ONE⟩)
    (a_MOST_PERSONS : PySem.W.nsIn K mainGlobals "MOST_PERSONS" = some (some (.int 3 tk_MOST_PERSONS)))
    (a_MOST_TIMES : PySem.W.nsIn K mainGlobals "MOST_TIMES" = some (some (.int 9 tk_MOST_TIMES)))
    (a_Hall : PySem.W.nsIn K mainGlobals "Hall" = some (some (.ref C_Hall)))
    (pg_Hall : PySem.W.plainGet K C_Hall Str.empty = true)
    (hd_Hall : PySem.W.hasDictIn K C_Hall = true)
    (po_Hall : PySem.W.plainOver K C_Hall = true)
    (sa_Hall : PySem.W.findIn K (.ref C_Hall) "__setattr__" = some (some (.builtin "object.__setattr__")))
    (a_Tree : PySem.W.nsIn K mainGlobals "Tree" = some (some (.ref C_Tree)))
    (pg_Tree : PySem.W.plainGet K C_Tree Str.empty = true)
    (hd_Tree : PySem.W.hasDictIn K C_Tree = true)
    (po_Tree : PySem.W.plainOver K C_Tree = true)
    (sa_Tree : PySem.W.findIn K (.ref C_Tree) "__setattr__" = some (some (.builtin "object.__setattr__")))
    (na_Hall_cases : PySem.W.findIn K (.ref C_Hall) "cases" = some none)
    (na_Hall_tellings : PySem.W.findIn K (.ref C_Hall) "tellings" = some none)
    (na_Tree_back : PySem.W.findIn K (.ref C_Tree) "back" = some none)
    (na_Tree_weights : PySem.W.findIn K (.ref C_Tree) "weights" = some none)
    (na_Tree_odd : PySem.W.findIn K (.ref C_Tree) "odd" = some none)
    (mk_Tree : PySem.W.makesIn K C_Tree = true)
    (mi_Tree : PySem.W.findIn K (.ref C_Tree) "__init__" = some (some (.ref f_Tree_init)))
    (mf_Tree : PySem.W.isFn K (.ref f_Tree_init) = true)
    (mp_Tree : PySem.W.keepIn K (.ref C_Tree) = true)
    (mk_Hall : PySem.W.makesIn K C_Hall = true)
    (mi_Hall : PySem.W.findIn K (.ref C_Hall) "__init__" = some (some (.ref f_Hall_init)))
    (mf_Hall : PySem.W.isFn K (.ref f_Hall_init) = true)
    (mp_Hall : PySem.W.keepIn K (.ref C_Hall) = true)
    (ia_Hall : PySem.W.findIn K (.ref C_Hall) "__class__" = some (some (.builtin "object.__class__")))
    (in_Hall : PySem.W.specialIn K (.builtin "object.__class__") "__get__" = some (some (.builtin "getset_descriptor.__get__")))
    (it_Hall : PySem.W.takesIn K (.builtin "object.__class__") = some true)
    (im_Hall : PySem.W.mroIn K C_Hall (.type "object") = some true)
    (ie_Hall : PySem.W.kitOne K (.ref C_Hall) (.ref C_Hall) = some true)
    (io_Hall_NoneType : PySem.W.kitOne K (.type "NoneType") (.ref C_Hall) = some false)
    (io_Hall_bool : PySem.W.kitOne K (.type "bool") (.ref C_Hall) = some false)
    (io_Hall_int : PySem.W.kitOne K (.type "int") (.ref C_Hall) = some false)
    (io_Hall_str : PySem.W.kitOne K (.type "str") (.ref C_Hall) = some false)
    (io_Hall_tuple : PySem.W.kitOne K (.type "tuple") (.ref C_Hall) = some false)
    (io_Hall_list : PySem.W.kitOne K (.type "list") (.ref C_Hall) = some false)
    (io_Hall_dict : PySem.W.kitOne K (.type "dict") (.ref C_Hall) = some false)
    (ti_wrong_telling : PySem.W.tabIn K "wrong_telling" = some (c0_wrong_telling, P0_wrong_telling))
    (th_wrong_telling : PySem.W.codeHdIn K c0_wrong_telling P0_wrong_telling = true)
    (tn_wrong_telling : K.lookup P0_wrong_telling = none)
    (z_len : PySem.W.nsIn K mainGlobals "len" = some none)
    (z_range : PySem.W.nsIn K mainGlobals "range" = some none)
    (z_zip : PySem.W.nsIn K mainGlobals "zip" = some none)
    (z_enumerate : PySem.W.nsIn K mainGlobals "enumerate" = some none)
    (z_tuple : PySem.W.nsIn K mainGlobals "tuple" = some none)
    (z_list : PySem.W.nsIn K mainGlobals "list" = some none)
    (z_int : PySem.W.nsIn K mainGlobals "int" = some none)
    (z_bool : PySem.W.nsIn K mainGlobals "bool" = some none)
    (z_str : PySem.W.nsIn K mainGlobals "str" = some none)
    (z_sum : PySem.W.nsIn K mainGlobals "sum" = some none)
    (z_all : PySem.W.nsIn K mainGlobals "all" = some none)
    (z_any : PySem.W.nsIn K mainGlobals "any" = some none)
    (z_sorted : PySem.W.nsIn K mainGlobals "sorted" = some none)
    (z_abs : PySem.W.nsIn K mainGlobals "abs" = some none)
    (z_max : PySem.W.nsIn K mainGlobals "max" = some none)
    (z_min : PySem.W.nsIn K mainGlobals "min" = some none)
    (z_divmod : PySem.W.nsIn K mainGlobals "divmod" = some none)
    (z_repr : PySem.W.nsIn K mainGlobals "repr" = some none)
    (z_isinstance : PySem.W.nsIn K mainGlobals "isinstance" = some none)
    (z_dict : PySem.W.nsIn K mainGlobals "dict" = some none)
    (z_gcd : PySem.W.nsIn K mainGlobals "gcd" = some (some (.builtin "math.gcd")))
    : ∃ (fd : FuncData) (tabs : List Tab3), (∀ (s : Shared) (u : Value), BindsTo s fd ⟨[u], []⟩ [("script", u)]) ∧ tabs.map (·.1) = (["wrong_telling"] : List Str) ∧ (∀ p ∈ tabs, TabOk K p) ∧ (tabs.map (·.2.2)).Nodup ∧
      ∀ base : Heap, K.In base → base.Ns mainGlobals mg → (∀ p ∈ tabs, LamX.TabB base mg p.2.1 p.2.2) → FnG P w K mg base 15 fa fd ["script"] (spF K mg 1 C_law) := by
  have e := hfa.symm.trans (PySem.W.mg_of KX G a_law)
  cases e
  have F_is_whole := fun_mk (st := s_is_whole) l_is_whole e_is_whole k_is_whole
  have bn_is_whole := F_is_whole.binds (ps := ["value"]) fun _ _ _ _ _ _ us hl => match us, hl with | [_], _ => rfl
  have gm_is_whole := PySem.W.mg_of KX G a_is_whole
  have F_is_number : L2.FunD K "is_number" "is_number" (defArgs s_is_number) (defBody s_is_number) (defScope s_is_number) [.int 0, .non] [] f_is_number _ := ⟨⟨_, _, _, _, _, _, _, _, _, _, rfl, l_is_number, e_is_number, .inr ⟨by simp, _, _, _, _, rfl, t_is_number, rfl, (.cons ⟨_, rfl⟩ (.cons rfl .nil))⟩, .inl rfl⟩, k_is_number⟩
  have gm_is_number := PySem.W.mg_of KX G a_is_number
  have F_is_between := fun_mk (st := s_is_between) l_is_between e_is_between k_is_between
  have bn_is_between := F_is_between.binds (ps := ["value", "least", "most"]) fun _ _ _ _ _ _ us hl => match us, hl with | [_, _, _], _ => rfl
  have gm_is_between := PySem.W.mg_of KX G a_is_between
  have F_is_tuple_of := fun_mk (st := s_is_tuple_of) l_is_tuple_of e_is_tuple_of k_is_tuple_of
  have bn_is_tuple_of := F_is_tuple_of.binds (ps := ["value", "many"]) fun _ _ _ _ _ _ us hl => match us, hl with | [_, _], _ => rfl
  have gm_is_tuple_of := PySem.W.mg_of KX G a_is_tuple_of
  have F_is_row := fun_mk (st := s_is_row) l_is_row e_is_row k_is_row
  have bn_is_row := F_is_row.binds (ps := ["value", "least", "most"]) fun _ _ _ _ _ _ us hl => match us, hl with | [_, _, _], _ => rfl
  have gm_is_row := PySem.W.mg_of KX G a_is_row
  have F_first_wrong := fun_mk (st := s_first_wrong) l_first_wrong e_first_wrong k_first_wrong
  have bn_first_wrong := F_first_wrong.binds (ps := ["value", "is_right"]) fun _ _ _ _ _ _ us hl => match us, hl with | [_, _], _ => rfl
  have gm_first_wrong := PySem.W.mg_of KX G a_first_wrong
  have F_lowest := fun_mk (st := s_lowest) l_lowest e_lowest k_lowest
  have bn_lowest := F_lowest.binds (ps := ["over", "under"]) fun _ _ _ _ _ _ us hl => match us, hl with | [_, _], _ => rfl
  have gm_lowest := PySem.W.mg_of KX G a_lowest
  have F_is_fraction := fun_mk (st := s_is_fraction) l_is_fraction e_is_fraction k_is_fraction
  have bn_is_fraction := F_is_fraction.binds (ps := ["value"]) fun _ _ _ _ _ _ us hl => match us, hl with | [_], _ => rfl
  have gm_is_fraction := PySem.W.mg_of KX G a_is_fraction
  have F_plus := fun_mk (st := s_plus) l_plus e_plus k_plus
  have bn_plus := F_plus.binds (ps := ["one", "other"]) fun _ _ _ _ _ _ us hl => match us, hl with | [_, _], _ => rfl
  have gm_plus := PySem.W.mg_of KX G a_plus
  have F_times := fun_mk (st := s_times) l_times e_times k_times
  have bn_times := F_times.binds (ps := ["one", "other"]) fun _ _ _ _ _ _ us hl => match us, hl with | [_, _], _ => rfl
  have gm_times := PySem.W.mg_of KX G a_times
  have F_divided := fun_mk (st := s_divided) l_divided e_divided k_divided
  have bn_divided := F_divided.binds (ps := ["one", "other"]) fun _ _ _ _ _ _ us hl => match us, hl with | [_, _], _ => rfl
  have gm_divided := PySem.W.mg_of KX G a_divided
  have F_sum_of := fun_mk (st := s_sum_of) l_sum_of e_sum_of k_sum_of
  have bn_sum_of := F_sum_of.binds (ps := ["fractions"]) fun _ _ _ _ _ _ us hl => match us, hl with | [_], _ => rfl
  have gm_sum_of := PySem.W.mg_of KX G a_sum_of
  have F_is_cases := fun_mk (st := s_is_cases) l_is_cases e_is_cases k_is_cases
  have bn_is_cases := F_is_cases.binds (ps := ["value"]) fun _ _ _ _ _ _ us hl => match us, hl with | [_], _ => rfl
  have gm_is_cases := PySem.W.mg_of KX G a_is_cases
  have F_is_lot_of := fun_mk (st := s_is_lot_of) l_is_lot_of e_is_lot_of k_is_lot_of
  have bn_is_lot_of := F_is_lot_of.binds (ps := ["cases", "value"]) fun _ _ _ _ _ _ us hl => match us, hl with | [_, _], _ => rfl
  have gm_is_lot_of := PySem.W.mg_of KX G a_is_lot_of
  have F_are_chances := fun_mk (st := s_are_chances) l_are_chances e_are_chances k_are_chances
  have bn_are_chances := F_are_chances.binds (ps := ["value", "many"]) fun _ _ _ _ _ _ us hl => match us, hl with | [_, _], _ => rfl
  have gm_are_chances := PySem.W.mg_of KX G a_are_chances
  have F_is_part := fun_mk (st := s_is_part) l_is_part e_is_part k_is_part
  have bn_is_part := F_is_part.binds (ps := ["cases", "value"]) fun _ _ _ _ _ _ us hl => match us, hl with | [_, _], _ => rfl
  have gm_is_part := PySem.W.mg_of KX G a_is_part
  have F_is_telling := fun_mk (st := s_is_telling) l_is_telling e_is_telling k_is_telling
  have bn_is_telling := F_is_telling.binds (ps := ["cases", "value"]) fun _ _ _ _ _ _ us hl => match us, hl with | [_, _], _ => rfl
  have gm_is_telling := PySem.W.mg_of KX G a_is_telling
  have F_wrong_telling := fun_mk (st := s_wrong_telling) l_wrong_telling e_wrong_telling k_wrong_telling
  have bn_wrong_telling := F_wrong_telling.binds (ps := ["cases", "value"]) fun _ _ _ _ _ _ us hl => match us, hl with | [_, _], _ => rfl
  have gm_wrong_telling := PySem.W.mg_of KX G a_wrong_telling
  have F_check_tellings := fun_mk (st := s_check_tellings) l_check_tellings e_check_tellings k_check_tellings
  have bn_check_tellings := F_check_tellings.binds (ps := ["cases", "tellings"]) fun _ _ _ _ _ _ us hl => match us, hl with | [_, _], _ => rfl
  have gm_check_tellings := PySem.W.mg_of KX G a_check_tellings
  have F_Hall_init := fun_mk (st := s_Hall_init) l_Hall_init e_Hall_init k_Hall_init
  have bn_Hall_init := F_Hall_init.binds (ps := ["self", "cases", "tellings"]) fun _ _ _ _ _ _ us hl => match us, hl with | [_, _, _], _ => rfl
  have F_check_hall := fun_mk (st := s_check_hall) l_check_hall e_check_hall k_check_hall
  have bn_check_hall := F_check_hall.binds (ps := ["value"]) fun _ _ _ _ _ _ us hl => match us, hl with | [_], _ => rfl
  have gm_check_hall := PySem.W.mg_of KX G a_check_hall
  have F_cases_of := fun_mk (st := s_cases_of) l_cases_of e_cases_of k_cases_of
  have bn_cases_of := F_cases_of.binds (ps := ["hall"]) fun _ _ _ _ _ _ us hl => match us, hl with | [_], _ => rfl
  have gm_cases_of := PySem.W.mg_of KX G a_cases_of
  have F_persons_of := fun_mk (st := s_persons_of) l_persons_of e_persons_of k_persons_of
  have bn_persons_of := F_persons_of.binds (ps := ["hall"]) fun _ _ _ _ _ _ us hl => match us, hl with | [_], _ => rfl
  have gm_persons_of := PySem.W.mg_of KX G a_persons_of
  have F_is_case := fun_mk (st := s_is_case) l_is_case e_is_case k_is_case
  have bn_is_case := F_is_case.binds (ps := ["hall", "value"]) fun _ _ _ _ _ _ us hl => match us, hl with | [_, _], _ => rfl
  have gm_is_case := PySem.W.mg_of KX G a_is_case
  have F_check_case := fun_mk (st := s_check_case) l_check_case e_check_case k_check_case
  have bn_check_case := F_check_case.binds (ps := ["hall", "value"]) fun _ _ _ _ _ _ us hl => match us, hl with | [_, _], _ => rfl
  have gm_check_case := PySem.W.mg_of KX G a_check_case
  have F_is_person := fun_mk (st := s_is_person) l_is_person e_is_person k_is_person
  have bn_is_person := F_is_person.binds (ps := ["hall", "value"]) fun _ _ _ _ _ _ us hl => match us, hl with | [_, _], _ => rfl
  have gm_is_person := PySem.W.mg_of KX G a_is_person
  have F_check_person := fun_mk (st := s_check_person) l_check_person e_check_person k_check_person
  have bn_check_person := F_check_person.binds (ps := ["hall", "value"]) fun _ _ _ _ _ _ us hl => match us, hl with | [_, _], _ => rfl
  have gm_check_person := PySem.W.mg_of KX G a_check_person
  have F_is_lot := fun_mk (st := s_is_lot) l_is_lot e_is_lot k_is_lot
  have bn_is_lot := F_is_lot.binds (ps := ["hall", "value"]) fun _ _ _ _ _ _ us hl => match us, hl with | [_, _], _ => rfl
  have gm_is_lot := PySem.W.mg_of KX G a_is_lot
  have F_check_lot := fun_mk (st := s_check_lot) l_check_lot e_check_lot k_check_lot
  have bn_check_lot := F_check_lot.binds (ps := ["hall", "value"]) fun _ _ _ _ _ _ us hl => match us, hl with | [_, _], _ => rfl
  have gm_check_lot := PySem.W.mg_of KX G a_check_lot
  have F_part_at := fun_mk (st := s_part_at) l_part_at e_part_at k_part_at
  have bn_part_at := F_part_at.binds (ps := ["hall", "person", "case"]) fun _ _ _ _ _ _ us hl => match us, hl with | [_, _, _], _ => rfl
  have gm_part_at := PySem.W.mg_of KX G a_part_at
  have F_seen_by := fun_mk (st := s_seen_by) l_seen_by e_seen_by k_seen_by
  have bn_seen_by := F_seen_by.binds (ps := ["hall", "person", "case"]) fun _ _ _ _ _ _ us hl => match us, hl with | [_, _, _], _ => rfl
  have gm_seen_by := PySem.W.mg_of KX G a_seen_by
  have F_told_of := fun_mk (st := s_told_of) l_told_of e_told_of k_told_of
  have bn_told_of := F_told_of.binds (ps := ["hall", "person", "case"]) fun _ _ _ _ _ _ us hl => match us, hl with | [_, _, _], _ => rfl
  have gm_told_of := PySem.W.mg_of KX G a_told_of
  have F_seen := fun_mk (st := s_seen) l_seen e_seen k_seen
  have bn_seen := F_seen.binds (ps := ["hall", "person", "case"]) fun _ _ _ _ _ _ us hl => match us, hl with | [_, _, _], _ => rfl
  have gm_seen := PySem.W.mg_of KX G a_seen
  have F_tied_with := fun_mk (st := s_tied_with) l_tied_with e_tied_with k_tied_with
  have bn_tied_with := F_tied_with.binds (ps := ["hall", "case"]) fun _ _ _ _ _ _ us hl => match us, hl with | [_, _], _ => rfl
  have gm_tied_with := PySem.W.mg_of KX G a_tied_with
  have F_quotient := fun_mk (st := s_quotient) l_quotient e_quotient k_quotient
  have bn_quotient := F_quotient.binds (ps := ["hall", "person", "case", "other"]) fun _ _ _ _ _ _ us hl => match us, hl with | [_, _, _, _], _ => rfl
  have gm_quotient := PySem.W.mg_of KX G a_quotient
  have F_Tree_init := fun_mk (st := s_Tree_init) l_Tree_init e_Tree_init k_Tree_init
  have bn_Tree_init := F_Tree_init.binds (ps := ["self", "hall", "begin"]) fun _ _ _ _ _ _ us hl => match us, hl with | [_, _, _], _ => rfl
  have F_pieces_by := fun_mk (st := s_pieces_by) l_pieces_by e_pieces_by k_pieces_by
  have bn_pieces_by := F_pieces_by.binds (ps := ["hall"]) fun _ _ _ _ _ _ us hl => match us, hl with | [_], _ => rfl
  have gm_pieces_by := PySem.W.mg_of KX G a_pieces_by
  have F_pieces := fun_mk (st := s_pieces) l_pieces e_pieces k_pieces
  have bn_pieces := F_pieces.binds (ps := ["hall"]) fun _ _ _ _ _ _ us hl => match us, hl with | [_], _ => rfl
  have gm_pieces := PySem.W.mg_of KX G a_pieces
  have F_is_within := fun_mk (st := s_is_within) l_is_within e_is_within k_is_within
  have bn_is_within := F_is_within.binds (ps := ["lot", "other"]) fun _ _ _ _ _ _ us hl => match us, hl with | [_, _], _ => rfl
  have gm_is_within := PySem.W.mg_of KX G a_is_within
  have F_knows_by := fun_mk (st := s_knows_by) l_knows_by e_knows_by k_knows_by
  have bn_knows_by := F_knows_by.binds (ps := ["hall", "person", "lot"]) fun _ _ _ _ _ _ us hl => match us, hl with | [_, _, _], _ => rfl
  have gm_knows_by := PySem.W.mg_of KX G a_knows_by
  have F_all_know_once := fun_mk (st := s_all_know_once) l_all_know_once e_all_know_once k_all_know_once
  have bn_all_know_once := F_all_know_once.binds (ps := ["hall", "lot"]) fun _ _ _ _ _ _ us hl => match us, hl with | [_, _], _ => rfl
  have gm_all_know_once := PySem.W.mg_of KX G a_all_know_once
  have F_all_know_by := fun_mk (st := s_all_know_by) l_all_know_by e_all_know_by k_all_know_by
  have bn_all_know_by := F_all_know_by.binds (ps := ["hall", "lot", "times"]) fun _ _ _ _ _ _ us hl => match us, hl with | [_, _, _], _ => rfl
  have gm_all_know_by := PySem.W.mg_of KX G a_all_know_by
  have F_for_ever_by := fun_mk (st := s_for_ever_by) l_for_ever_by e_for_ever_by k_for_ever_by
  have bn_for_ever_by := F_for_ever_by.binds (ps := ["hall", "lot"]) fun _ _ _ _ _ _ us hl => match us, hl with | [_, _], _ => rfl
  have gm_for_ever_by := PySem.W.mg_of KX G a_for_ever_by
  have F_depth_by := fun_mk (st := s_depth_by) l_depth_by e_depth_by k_depth_by
  have bn_depth_by := F_depth_by.binds (ps := ["hall", "lot", "case"]) fun _ _ _ _ _ _ us hl => match us, hl with | [_, _, _], _ => rfl
  have gm_depth_by := PySem.W.mg_of KX G a_depth_by
  have F_pooled_by := fun_mk (st := s_pooled_by) l_pooled_by e_pooled_by k_pooled_by
  have bn_pooled_by := F_pooled_by.binds (ps := ["hall"]) fun _ _ _ _ _ _ us hl => match us, hl with | [_], _ => rfl
  have gm_pooled_by := PySem.W.mg_of KX G a_pooled_by
  have F_is_finer_by := fun_mk (st := s_is_finer_by) l_is_finer_by e_is_finer_by k_is_finer_by
  have bn_is_finer_by := F_is_finer_by.binds (ps := ["hall", "person", "other"]) fun _ _ _ _ _ _ us hl => match us, hl with | [_, _, _], _ => rfl
  have gm_is_finer_by := PySem.W.mg_of KX G a_is_finer_by
  have F_is_times := fun_mk (st := s_is_times) l_is_times e_is_times k_is_times
  have bn_is_times := F_is_times.binds (ps := ["value"]) fun _ _ _ _ _ _ us hl => match us, hl with | [_], _ => rfl
  have gm_is_times := PySem.W.mg_of KX G a_is_times
  have F_check_known := fun_mk (st := s_check_known) l_check_known e_check_known k_check_known
  have bn_check_known := F_check_known.binds (ps := ["hall", "lot"]) fun _ _ _ _ _ _ us hl => match us, hl with | [_, _], _ => rfl
  have gm_check_known := PySem.W.mg_of KX G a_check_known
  have F_knows := fun_mk (st := s_knows) l_knows e_knows k_knows
  have bn_knows := F_knows.binds (ps := ["hall", "person", "lot"]) fun _ _ _ _ _ _ us hl => match us, hl with | [_, _, _], _ => rfl
  have gm_knows := PySem.W.mg_of KX G a_knows
  have F_all_know := fun_mk (st := s_all_know) l_all_know e_all_know k_all_know
  have bn_all_know := F_all_know.binds (ps := ["hall", "lot", "times"]) fun _ _ _ _ _ _ us hl => match us, hl with | [_, _, _], _ => rfl
  have gm_all_know := PySem.W.mg_of KX G a_all_know
  have F_for_ever := fun_mk (st := s_for_ever) l_for_ever e_for_ever k_for_ever
  have bn_for_ever := F_for_ever.binds (ps := ["hall", "lot"]) fun _ _ _ _ _ _ us hl => match us, hl with | [_, _], _ => rfl
  have gm_for_ever := PySem.W.mg_of KX G a_for_ever
  have F_depth := fun_mk (st := s_depth) l_depth e_depth k_depth
  have bn_depth := F_depth.binds (ps := ["hall", "lot", "case"]) fun _ _ _ _ _ _ us hl => match us, hl with | [_, _, _], _ => rfl
  have gm_depth := PySem.W.mg_of KX G a_depth
  have F_pooled := fun_mk (st := s_pooled) l_pooled e_pooled k_pooled
  have bn_pooled := F_pooled.binds (ps := ["hall"]) fun _ _ _ _ _ _ us hl => match us, hl with | [_], _ => rfl
  have gm_pooled := PySem.W.mg_of KX G a_pooled
  have F_is_finer := fun_mk (st := s_is_finer) l_is_finer e_is_finer k_is_finer
  have bn_is_finer := F_is_finer.binds (ps := ["hall", "person", "other"]) fun _ _ _ _ _ _ us hl => match us, hl with | [_, _, _], _ => rfl
  have gm_is_finer := PySem.W.mg_of KX G a_is_finer
  have F__law_pool := fun_mk (st := s__law_pool) l__law_pool e__law_pool k__law_pool
  have bn__law_pool := F__law_pool.binds (ps := ["script", "k"]) fun _ _ _ _ _ _ us hl => match us, hl with | [_, _], _ => rfl
  have gm__law_pool := PySem.W.mg_of KX G a__law_pool
  have F__law_take := fun_mk (st := s__law_take) l__law_take e__law_take k__law_take
  have bn__law_take := F__law_take.binds (ps := ["pool", "many"]) fun _ _ _ _ _ _ us hl => match us, hl with | [_, _], _ => rfl
  have gm__law_take := PySem.W.mg_of KX G a__law_take
  have F__law_of := fun_mk (st := s__law_of) l__law_of e__law_of k__law_of
  have bn__law_of := F__law_of.binds (ps := ["pool", "some"]) fun _ _ _ _ _ _ us hl => match us, hl with | [_, _], _ => rfl
  have gm__law_of := PySem.W.mg_of KX G a__law_of
  have F__law_lowest := fun_mk (st := s__law_lowest) l__law_lowest e__law_lowest k__law_lowest
  have bn__law_lowest := F__law_lowest.binds (ps := ["top", "low"]) fun _ _ _ _ _ _ us hl => match us, hl with | [_, _], _ => rfl
  have gm__law_lowest := PySem.W.mg_of KX G a__law_lowest
  have F__law_parts := fun_mk (st := s__law_parts) l__law_parts e__law_parts k__law_parts
  have bn__law_parts := F__law_parts.binds (ps := ["pool", "cases"]) fun _ _ _ _ _ _ us hl => match us, hl with | [_, _], _ => rfl
  have gm__law_parts := PySem.W.mg_of KX G a__law_parts
  have F__law_hall := fun_mk (st := s__law_hall) l__law_hall e__law_hall k__law_hall
  have bn__law_hall := F__law_hall.binds (ps := ["pool", "most", "odd"]) fun _ _ _ _ _ _ us hl => match us, hl with | [_, _, _], _ => rfl
  have gm__law_hall := PySem.W.mg_of KX G a__law_hall
  have F__law_made := fun_mk (st := s__law_made) l__law_made e__law_made k__law_made
  have bn__law_made := F__law_made.binds (ps := ["d"]) fun _ _ _ _ _ _ us hl => match us, hl with | [_], _ => rfl
  have gm__law_made := PySem.W.mg_of KX G a__law_made
  have F__law_lot := fun_mk (st := s__law_lot) l__law_lot e__law_lot k__law_lot
  have bn__law_lot := F__law_lot.binds (ps := ["pool", "cases"]) fun _ _ _ _ _ _ us hl => match us, hl with | [_, _], _ => rfl
  have gm__law_lot := PySem.W.mg_of KX G a__law_lot
  have F__law_lots_right := fun_mk (st := s__law_lots_right) l__law_lots_right e__law_lots_right k__law_lots_right
  have bn__law_lots_right := F__law_lots_right.binds (ps := ["d", "hall", "one", "two"]) fun _ _ _ _ _ _ us hl => match us, hl with | [_, _, _, _], _ => rfl
  have gm__law_lots_right := PySem.W.mg_of KX G a__law_lots_right
  have F__law_right := fun_mk (st := s__law_right) l__law_right e__law_right k__law_right
  have bn__law_right := F__law_right.binds (ps := ["pool", "most"]) fun _ _ _ _ _ _ us hl => match us, hl with | [_, _], _ => rfl
  have gm__law_right := PySem.W.mg_of KX G a__law_right
  have F_law := fun_mk (st := s_law) l_law e_law k_law
  have bn_law := F_law.binds (ps := ["script"]) fun _ _ _ _ _ _ us hl => match us, hl with | [_], _ => rfl
  have gm_law := PySem.W.mg_of KX G a_law
  have c_ZERO : Cst K mg "ZERO" (.tup [(.int 0), (.int 1)]) := ⟨_, .ref A_ZERO, PySem.W.mg_of KX G a_ZERO, rfl, fun _ => isV_ktup (ns := [0, 1]) l_ZERO rfl rfl rfl (show 2 ≤ sizeLine by decide) (.cons ⟨_, rfl⟩ (.cons ⟨_, rfl⟩ .nil))⟩
  have c_FEWEST_CASES : Cst K mg "FEWEST_CASES" (.int 2) := ⟨_, .int 2, PySem.W.mg_of KX G a_FEWEST_CASES, ⟨_, rfl⟩, fun _ => .int _⟩
  have c_MOST_CASES : Cst K mg "MOST_CASES" (.int 6) := ⟨_, .int 6, PySem.W.mg_of KX G a_MOST_CASES, ⟨_, rfl⟩, fun _ => .int _⟩
  have c_ONE : Cst K mg "ONE" (.tup [(.int 1), (.int 1)]) := ⟨_, .ref A_ONE, PySem.W.mg_of KX G a_ONE, rfl, fun _ => isV_ktup (ns := [1, 1]) l_ONE rfl rfl rfl (show 2 ≤ sizeLine by decide) (.cons ⟨_, rfl⟩ (.cons ⟨_, rfl⟩ .nil))⟩
  have c_MOST_PERSONS : Cst K mg "MOST_PERSONS" (.int 3) := ⟨_, .int 3, PySem.W.mg_of KX G a_MOST_PERSONS, ⟨_, rfl⟩, fun _ => .int _⟩
  have c_MOST_TIMES : Cst K mg "MOST_TIMES" (.int 9) := ⟨_, .int 9, PySem.W.mg_of KX G a_MOST_TIMES, ⟨_, rfl⟩, fun _ => .int _⟩
  have cg_Hall := PySem.W.mg_of KX G a_Hall
  have cl_Hall : Cls K C_Hall := ⟨pg_Hall, hd_Hall, po_Hall, sa_Hall⟩
  have cg_Tree := PySem.W.mg_of KX G a_Tree
  have cl_Tree : Cls K C_Tree := ⟨pg_Tree, hd_Tree, po_Tree, sa_Tree⟩
  have at_Hall_cases : ∀ C, mg "Hall" = some (.ref C) → Cls K C ∧ NoAttr K C "cases" := fun C hC => by
    rw [cg_Hall] at hC; cases hC; exact ⟨cl_Hall, na_Hall_cases⟩
  have at_Hall_tellings : ∀ C, mg "Hall" = some (.ref C) → Cls K C ∧ NoAttr K C "tellings" := fun C hC => by
    rw [cg_Hall] at hC; cases hC; exact ⟨cl_Hall, na_Hall_tellings⟩
  have at_Tree_back : ∀ C, mg "Tree" = some (.ref C) → Cls K C ∧ NoAttr K C "back" := fun C hC => by
    rw [cg_Tree] at hC; cases hC; exact ⟨cl_Tree, na_Tree_back⟩
  have at_Tree_weights : ∀ C, mg "Tree" = some (.ref C) → Cls K C ∧ NoAttr K C "weights" := fun C hC => by
    rw [cg_Tree] at hC; cases hC; exact ⟨cl_Tree, na_Tree_weights⟩
  have at_Tree_odd : ∀ C, mg "Tree" = some (.ref C) → Cls K C ∧ NoAttr K C "odd" := fun C hC => by
    rw [cg_Tree] at hC; cases hC; exact ⟨cl_Tree, na_Tree_odd⟩
  have ci_Hall : CInst K C_Hall := ⟨cl_Hall, ia_Hall, in_Hall, it_Hall, im_Hall, ie_Hall, fun t ht => by
    simp only [List.mem_cons, List.not_mem_nil, or_false] at ht
    rcases ht with rfl | rfl | rfl | rfl | rfl | rfl | rfl <;> assumption⟩
  have B : Bl mg := ⟨PySem.W.mg_none_of KX G z_len, PySem.W.mg_none_of KX G z_range, PySem.W.mg_none_of KX G z_zip, PySem.W.mg_none_of KX G z_enumerate, PySem.W.mg_none_of KX G z_tuple, PySem.W.mg_none_of KX G z_list, PySem.W.mg_none_of KX G z_int, PySem.W.mg_none_of KX G z_bool, PySem.W.mg_none_of KX G z_str, PySem.W.mg_none_of KX G z_sum, PySem.W.mg_none_of KX G z_all, PySem.W.mg_none_of KX G z_any, PySem.W.mg_none_of KX G z_sorted, PySem.W.mg_none_of KX G z_abs, PySem.W.mg_none_of KX G z_max, PySem.W.mg_none_of KX G z_min, PySem.W.mg_none_of KX G z_divmod, PySem.W.mg_none_of KX G z_repr, PySem.W.mg_none_of KX G z_isinstance, PySem.W.mg_none_of KX G z_dict⟩
  have mg_gcd := PySem.W.mg_of KX G z_gcd
  have tk : ∀ p ∈ ([("wrong_telling", c0_wrong_telling, P0_wrong_telling)] : List Tab3), TabOk K p := fun p hp => by
    simp only [List.mem_cons, List.not_mem_nil, or_false] at hp
    subst hp
    exact ⟨ti_wrong_telling, th_wrong_telling, tn_wrong_telling⟩
  refine ⟨PySem.W.fnOf "law" "law" (defArgs s_law) (defBody s_law) (defScope s_law) .none kV_law dc_law pm_law an_law cd_law ct_law, [("wrong_telling", c0_wrong_telling, P0_wrong_telling)], fun s v => .of_eq rfl, rfl, tk, by simp, fun base KB GB TB => ?_⟩
  have lb_wrong_telling := TB ("wrong_telling", c0_wrong_telling, P0_wrong_telling) (by simp)
  have lt_wrong_telling := ti_wrong_telling
  have O_is_whole := g_is_whole (P := P) (w := w) (mg := mg) (base := base) F_is_whole B
  have G_is_whole : FnGD P w K mg base "is_whole" _ _ 1 ["value"] C_is_whole := ⟨O_is_whole, gm_is_whole, F_is_whole.kp, bn_is_whole⟩
  have O_is_number := g_is_number (P := P) (w := w) (mg := mg) (base := base) F_is_number G_is_whole
  have bn_is_number : Binds K (PySem.W.fnOf "is_number" "is_number" (defArgs s_is_number) (defBody s_is_number) (defScope s_is_number) (.ref T_is_number) kV_is_number dc_is_number pm_is_number an_is_number cd_is_number ct_is_number) ["value", "low", "high"] [] := by
    obtain ⟨ds, hv, hb⟩ := F_is_number.binds1 (ps := ["value", "low", "high"]) 3 2 (by simp) rfl fun T kV doc pm an cdv ct us its hl hi => match us, its, hl, hi with | [_, _, _], [_, _], _, _ => ⟨_, rfl, rfl⟩
    cases hv; exact hb
  have G_is_number : FnGD P w K mg base "is_number" _ _ 2 ["value", "low", "high"] C_is_number := ⟨O_is_number, gm_is_number, F_is_number.kp, bn_is_number⟩
  have O_is_between := g_is_between (P := P) (w := w) (mg := mg) (base := base) F_is_between G_is_whole
  have G_is_between : FnGD P w K mg base "is_between" _ _ 2 ["value", "least", "most"] C_is_between := ⟨O_is_between, gm_is_between, F_is_between.kp, bn_is_between⟩
  have O_is_tuple_of := g_is_tuple_of (P := P) (w := w) (mg := mg) (base := base) F_is_tuple_of B
  have G_is_tuple_of : FnGD P w K mg base "is_tuple_of" _ _ 1 ["value", "many"] C_is_tuple_of := ⟨O_is_tuple_of, gm_is_tuple_of, F_is_tuple_of.kp, bn_is_tuple_of⟩
  have O_is_row := g_is_row (P := P) (w := w) (mg := mg) (base := base) F_is_row B
  have G_is_row : FnGD P w K mg base "is_row" _ _ 1 ["value", "least", "most"] C_is_row := ⟨O_is_row, gm_is_row, F_is_row.kp, bn_is_row⟩
  have O_lowest := g_lowest (P := P) (w := w) (mg := mg) (base := base) F_lowest mg_gcd
  have G_lowest : FnGD P w K mg base "lowest" _ _ 1 ["over", "under"] C_lowest := ⟨O_lowest, gm_lowest, F_lowest.kp, bn_lowest⟩
  have df_is_number_2 : DfD K mg (PySem.W.fnOf "is_number" "is_number" (defArgs s_is_number) (defBody s_is_number) (defScope s_is_number) (.ref T_is_number) kV_is_number dc_is_number pm_is_number an_is_number cd_is_number ct_is_number) ["value", "low", "high"] [.non] := by
    obtain ⟨ds, hv, hb⟩ := F_is_number.binds1 (ps := ["value", "low", "high"]) 2 1 (by simp) rfl fun T kV doc pm an cdv ct us its hl hi => match us, its, hl, hi with | [_, _], [_, _], _, _ => ⟨_, rfl, rfl⟩
    exact ⟨⟨_, ds, hb, hv, fun W => (.cons .non .nil)⟩⟩
  have O_is_fraction := g_is_fraction (P := P) (w := w) (mg := mg) (base := base) F_is_fraction G_is_number df_is_number_2 G_is_whole G_is_tuple_of mg_gcd
  have G_is_fraction : FnGD P w K mg base "is_fraction" _ _ 3 ["value"] C_is_fraction := ⟨O_is_fraction, gm_is_fraction, F_is_fraction.kp, bn_is_fraction⟩
  have O_plus := g_plus (P := P) (w := w) (mg := mg) (base := base) F_plus G_lowest
  have G_plus : FnGD P w K mg base "plus" _ _ 2 ["one", "other"] C_plus := ⟨O_plus, gm_plus, F_plus.kp, bn_plus⟩
  have O_times := g_times (P := P) (w := w) (mg := mg) (base := base) F_times G_lowest
  have G_times : FnGD P w K mg base "times" _ _ 2 ["one", "other"] C_times := ⟨O_times, gm_times, F_times.kp, bn_times⟩
  have O_divided := g_divided (P := P) (w := w) (mg := mg) (base := base) F_divided G_lowest
  have G_divided : FnGD P w K mg base "divided" _ _ 2 ["one", "other"] C_divided := ⟨O_divided, gm_divided, F_divided.kp, bn_divided⟩
  have O_sum_of := g_sum_of (P := P) (w := w) (mg := mg) (base := base) F_sum_of c_ZERO G_plus
  have G_sum_of : FnGD P w K mg base "sum_of" _ _ 3 ["fractions"] C_sum_of := ⟨O_sum_of, gm_sum_of, F_sum_of.kp, bn_sum_of⟩
  have O_is_cases := g_is_cases (P := P) (w := w) (mg := mg) (base := base) F_is_cases G_is_between c_FEWEST_CASES c_MOST_CASES
  have G_is_cases : FnGD P w K mg base "is_cases" _ _ 3 ["value"] C_is_cases := ⟨O_is_cases, gm_is_cases, F_is_cases.kp, bn_is_cases⟩
  have O_is_lot_of := g_is_lot_of (P := P) (w := w) (mg := mg) (base := base) F_is_lot_of G_is_between B
  have G_is_lot_of : FnGD P w K mg base "is_lot_of" _ _ 3 ["cases", "value"] C_is_lot_of := ⟨O_is_lot_of, gm_is_lot_of, F_is_lot_of.kp, bn_is_lot_of⟩
  have O_are_chances := g_are_chances (P := P) (w := w) (mg := mg) (base := base) F_are_chances G_is_fraction B G_is_tuple_of G_sum_of c_ONE
  have G_are_chances : FnGD P w K mg base "are_chances" _ _ 4 ["value", "many"] C_are_chances := ⟨O_are_chances, gm_are_chances, F_are_chances.kp, bn_are_chances⟩
  have O_is_part := g_is_part (P := P) (w := w) (mg := mg) (base := base) F_is_part G_is_lot_of G_is_tuple_of G_are_chances B
  have G_is_part : FnGD P w K mg base "is_part" _ _ 5 ["cases", "value"] C_is_part := ⟨O_is_part, gm_is_part, F_is_part.kp, bn_is_part⟩
  have O_is_telling := g_is_telling (P := P) (w := w) (mg := mg) (base := base) F_is_telling G_is_part B
  have G_is_telling : FnGD P w K mg base "is_telling" _ _ 6 ["cases", "value"] C_is_telling := ⟨O_is_telling, gm_is_telling, F_is_telling.kp, bn_is_telling⟩
  have lc_wrong_telling := fun (cdv : Value) (hc : _ = cdv) => hc.symm.trans (tab_code KX G F_wrong_telling gm_wrong_telling lt_wrong_telling)
  have O_wrong_telling := g_wrong_telling (P := P) (w := w) (mg := mg) (base := base) F_wrong_telling G_is_telling B lc_wrong_telling lt_wrong_telling lb_wrong_telling F_first_wrong gm_first_wrong bn_first_wrong
  have G_wrong_telling : FnGD P w K mg base "wrong_telling" _ _ 9 ["cases", "value"] C_wrong_telling := ⟨O_wrong_telling, gm_wrong_telling, F_wrong_telling.kp, bn_wrong_telling⟩
  have O_check_tellings := g_check_tellings (P := P) (w := w) (mg := mg) (base := base) F_check_tellings G_is_row c_MOST_PERSONS G_wrong_telling
  have G_check_tellings : FnGD P w K mg base "check_tellings" _ _ 10 ["cases", "tellings"] C_check_tellings := ⟨O_check_tellings, gm_check_tellings, F_check_tellings.kp, bn_check_tellings⟩
  have O_Hall_init := g_Hall_init (P := P) (w := w) (mg := mg) (base := base) F_Hall_init G_is_cases G_check_tellings at_Hall_cases at_Hall_tellings
  have M_Hall : MkD P w K mg base "Hall" _ _ _ 11 ["self", "cases", "tellings"] C_Hall_init := ⟨⟨mk_Hall, mi_Hall, mf_Hall, mp_Hall⟩, O_Hall_init, cg_Hall, bn_Hall_init⟩
  have O_check_hall := g_check_hall (P := P) (w := w) (mg := mg) (base := base) F_check_hall cg_Hall ci_Hall B
  have G_check_hall : FnGD P w K mg base "check_hall" _ _ 1 ["value"] C_check_hall := ⟨O_check_hall, gm_check_hall, F_check_hall.kp, bn_check_hall⟩
  have O_cases_of := g_cases_of (P := P) (w := w) (mg := mg) (base := base) F_cases_of at_Hall_cases B
  have G_cases_of : FnGD P w K mg base "cases_of" _ _ 1 ["hall"] C_cases_of := ⟨O_cases_of, gm_cases_of, F_cases_of.kp, bn_cases_of⟩
  have O_persons_of := g_persons_of (P := P) (w := w) (mg := mg) (base := base) F_persons_of at_Hall_tellings B
  have G_persons_of : FnGD P w K mg base "persons_of" _ _ 1 ["hall"] C_persons_of := ⟨O_persons_of, gm_persons_of, F_persons_of.kp, bn_persons_of⟩
  have O_is_case := g_is_case (P := P) (w := w) (mg := mg) (base := base) F_is_case G_is_between at_Hall_cases
  have G_is_case : FnGD P w K mg base "is_case" _ _ 3 ["hall", "value"] C_is_case := ⟨O_is_case, gm_is_case, F_is_case.kp, bn_is_case⟩
  have O_check_case := g_check_case (P := P) (w := w) (mg := mg) (base := base) F_check_case G_is_case
  have G_check_case : FnGD P w K mg base "check_case" _ _ 4 ["hall", "value"] C_check_case := ⟨O_check_case, gm_check_case, F_check_case.kp, bn_check_case⟩
  have O_is_person := g_is_person (P := P) (w := w) (mg := mg) (base := base) F_is_person G_is_between at_Hall_tellings B
  have G_is_person : FnGD P w K mg base "is_person" _ _ 3 ["hall", "value"] C_is_person := ⟨O_is_person, gm_is_person, F_is_person.kp, bn_is_person⟩
  have O_check_person := g_check_person (P := P) (w := w) (mg := mg) (base := base) F_check_person G_is_person
  have G_check_person : FnGD P w K mg base "check_person" _ _ 4 ["hall", "value"] C_check_person := ⟨O_check_person, gm_check_person, F_check_person.kp, bn_check_person⟩
  have O_is_lot := g_is_lot (P := P) (w := w) (mg := mg) (base := base) F_is_lot G_is_lot_of at_Hall_cases
  have G_is_lot : FnGD P w K mg base "is_lot" _ _ 4 ["hall", "value"] C_is_lot := ⟨O_is_lot, gm_is_lot, F_is_lot.kp, bn_is_lot⟩
  have O_check_lot := g_check_lot (P := P) (w := w) (mg := mg) (base := base) F_check_lot G_is_lot
  have G_check_lot : FnGD P w K mg base "check_lot" _ _ 5 ["hall", "value"] C_check_lot := ⟨O_check_lot, gm_check_lot, F_check_lot.kp, bn_check_lot⟩
  have O_part_at := g_part_at (P := P) (w := w) (mg := mg) (base := base) F_part_at at_Hall_tellings
  have G_part_at : FnGD P w K mg base "part_at" _ _ 1 ["hall", "person", "case"] C_part_at := ⟨O_part_at, gm_part_at, F_part_at.kp, bn_part_at⟩
  have O_seen_by := g_seen_by (P := P) (w := w) (mg := mg) (base := base) F_seen_by G_part_at
  have G_seen_by : FnGD P w K mg base "seen_by" _ _ 2 ["hall", "person", "case"] C_seen_by := ⟨O_seen_by, gm_seen_by, F_seen_by.kp, bn_seen_by⟩
  have O_told_of := g_told_of (P := P) (w := w) (mg := mg) (base := base) F_told_of G_part_at
  have G_told_of : FnGD P w K mg base "told_of" _ _ 2 ["hall", "person", "case"] C_told_of := ⟨O_told_of, gm_told_of, F_told_of.kp, bn_told_of⟩
  have O_seen := g_seen (P := P) (w := w) (mg := mg) (base := base) F_seen G_check_hall G_check_person G_check_case G_seen_by
  have G_seen : FnGD P w K mg base "seen" _ _ 5 ["hall", "person", "case"] C_seen := ⟨O_seen, gm_seen, F_seen.kp, bn_seen⟩
  have O_tied_with := g_tied_with (P := P) (w := w) (mg := mg) (base := base) F_tied_with G_persons_of G_seen_by
  have G_tied_with : FnGD P w K mg base "tied_with" _ _ 3 ["hall", "case"] C_tied_with := ⟨O_tied_with, gm_tied_with, F_tied_with.kp, bn_tied_with⟩
  have O_quotient := g_quotient (P := P) (w := w) (mg := mg) (base := base) F_quotient G_divided G_told_of
  have G_quotient : FnGD P w K mg base "quotient" _ _ 3 ["hall", "person", "case", "other"] C_quotient := ⟨O_quotient, gm_quotient, F_quotient.kp, bn_quotient⟩
  have O_Tree_init := g_Tree_init (P := P) (w := w) (mg := mg) (base := base) F_Tree_init at_Tree_back c_ONE at_Tree_weights at_Tree_odd G_tied_with G_times G_quotient
  have M_Tree : MkD P w K mg base "Tree" _ _ _ 4 ["self", "hall", "begin"] C_Tree_init := ⟨⟨mk_Tree, mi_Tree, mf_Tree, mp_Tree⟩, O_Tree_init, cg_Tree, bn_Tree_init⟩
  have O_pieces_by := g_pieces_by (P := P) (w := w) (mg := mg) (base := base) F_pieces_by G_cases_of M_Tree at_Tree_back B
  have G_pieces_by : FnGD P w K mg base "pieces_by" _ _ 6 ["hall"] C_pieces_by := ⟨O_pieces_by, gm_pieces_by, F_pieces_by.kp, bn_pieces_by⟩
  have O_pieces := g_pieces (P := P) (w := w) (mg := mg) (base := base) F_pieces G_check_hall G_pieces_by
  have G_pieces : FnGD P w K mg base "pieces" _ _ 7 ["hall"] C_pieces := ⟨O_pieces, gm_pieces, F_pieces.kp, bn_pieces⟩
  have O_is_within := g_is_within (P := P) (w := w) (mg := mg) (base := base) F_is_within B
  have G_is_within : FnGD P w K mg base "is_within" _ _ 1 ["lot", "other"] C_is_within := ⟨O_is_within, gm_is_within, F_is_within.kp, bn_is_within⟩
  have O_knows_by := g_knows_by (P := P) (w := w) (mg := mg) (base := base) F_knows_by G_cases_of G_is_within G_seen_by B
  have G_knows_by : FnGD P w K mg base "knows_by" _ _ 3 ["hall", "person", "lot"] C_knows_by := ⟨O_knows_by, gm_knows_by, F_knows_by.kp, bn_knows_by⟩
  have O_all_know_once := g_all_know_once (P := P) (w := w) (mg := mg) (base := base) F_all_know_once G_persons_of G_knows_by G_cases_of B
  have G_all_know_once : FnGD P w K mg base "all_know_once" _ _ 4 ["hall", "lot"] C_all_know_once := ⟨O_all_know_once, gm_all_know_once, F_all_know_once.kp, bn_all_know_once⟩
  have O_all_know_by := g_all_know_by (P := P) (w := w) (mg := mg) (base := base) F_all_know_by B G_all_know_once
  have G_all_know_by : FnGD P w K mg base "all_know_by" _ _ 5 ["hall", "lot", "times"] C_all_know_by := ⟨O_all_know_by, gm_all_know_by, F_all_know_by.kp, bn_all_know_by⟩
  have O_for_ever_by := g_for_ever_by (P := P) (w := w) (mg := mg) (base := base) F_for_ever_by G_pieces_by G_is_within B
  have G_for_ever_by : FnGD P w K mg base "for_ever_by" _ _ 7 ["hall", "lot"] C_for_ever_by := ⟨O_for_ever_by, gm_for_ever_by, F_for_ever_by.kp, bn_for_ever_by⟩
  have O_depth_by := g_depth_by (P := P) (w := w) (mg := mg) (base := base) F_depth_by G_for_ever_by G_all_know_once
  have G_depth_by : FnGD P w K mg base "depth_by" _ _ 8 ["hall", "lot", "case"] C_depth_by := ⟨O_depth_by, gm_depth_by, F_depth_by.kp, bn_depth_by⟩
  have O_pooled_by := g_pooled_by (P := P) (w := w) (mg := mg) (base := base) F_pooled_by G_cases_of G_persons_of G_seen_by B
  have G_pooled_by : FnGD P w K mg base "pooled_by" _ _ 3 ["hall"] C_pooled_by := ⟨O_pooled_by, gm_pooled_by, F_pooled_by.kp, bn_pooled_by⟩
  have O_is_finer_by := g_is_finer_by (P := P) (w := w) (mg := mg) (base := base) F_is_finer_by G_cases_of G_seen_by G_is_within B
  have G_is_finer_by : FnGD P w K mg base "is_finer_by" _ _ 3 ["hall", "person", "other"] C_is_finer_by := ⟨O_is_finer_by, gm_is_finer_by, F_is_finer_by.kp, bn_is_finer_by⟩
  have O_is_times := g_is_times (P := P) (w := w) (mg := mg) (base := base) F_is_times G_is_between c_MOST_TIMES
  have G_is_times : FnGD P w K mg base "is_times" _ _ 3 ["value"] C_is_times := ⟨O_is_times, gm_is_times, F_is_times.kp, bn_is_times⟩
  have O_check_known := g_check_known (P := P) (w := w) (mg := mg) (base := base) F_check_known G_check_hall G_check_lot
  have G_check_known : FnGD P w K mg base "check_known" _ _ 6 ["hall", "lot"] C_check_known := ⟨O_check_known, gm_check_known, F_check_known.kp, bn_check_known⟩
  have O_knows := g_knows (P := P) (w := w) (mg := mg) (base := base) F_knows G_check_hall G_check_person G_check_lot G_knows_by
  have G_knows : FnGD P w K mg base "knows" _ _ 6 ["hall", "person", "lot"] C_knows := ⟨O_knows, gm_knows, F_knows.kp, bn_knows⟩
  have O_all_know := g_all_know (P := P) (w := w) (mg := mg) (base := base) F_all_know G_check_known G_is_times G_all_know_by
  have G_all_know : FnGD P w K mg base "all_know" _ _ 7 ["hall", "lot", "times"] C_all_know := ⟨O_all_know, gm_all_know, F_all_know.kp, bn_all_know⟩
  have O_for_ever := g_for_ever (P := P) (w := w) (mg := mg) (base := base) F_for_ever G_check_known G_for_ever_by
  have G_for_ever : FnGD P w K mg base "for_ever" _ _ 8 ["hall", "lot"] C_for_ever := ⟨O_for_ever, gm_for_ever, F_for_ever.kp, bn_for_ever⟩
  have O_depth := g_depth (P := P) (w := w) (mg := mg) (base := base) F_depth G_check_known G_check_case G_depth_by
  have G_depth : FnGD P w K mg base "depth" _ _ 9 ["hall", "lot", "case"] C_depth := ⟨O_depth, gm_depth, F_depth.kp, bn_depth⟩
  have O_pooled := g_pooled (P := P) (w := w) (mg := mg) (base := base) F_pooled G_check_hall G_pooled_by
  have G_pooled : FnGD P w K mg base "pooled" _ _ 4 ["hall"] C_pooled := ⟨O_pooled, gm_pooled, F_pooled.kp, bn_pooled⟩
  have O_is_finer := g_is_finer (P := P) (w := w) (mg := mg) (base := base) F_is_finer G_check_hall G_check_person G_is_finer_by
  have G_is_finer : FnGD P w K mg base "is_finer" _ _ 5 ["hall", "person", "other"] C_is_finer := ⟨O_is_finer, gm_is_finer, F_is_finer.kp, bn_is_finer⟩
  have O__law_pool := g__law_pool (P := P) (w := w) (mg := mg) (base := base) F__law_pool B
  have G__law_pool : FnGD P w K mg base "_law_pool" _ _ 1 ["script", "k"] C__law_pool := ⟨O__law_pool, gm__law_pool, F__law_pool.kp, bn__law_pool⟩
  have O__law_take := g__law_take (P := P) (w := w) (mg := mg) (base := base) F__law_take B
  have G__law_take : FnGD P w K mg base "_law_take" _ _ 1 ["pool", "many"] C__law_take := ⟨O__law_take, gm__law_take, F__law_take.kp, bn__law_take⟩
  have O__law_of := g__law_of (P := P) (w := w) (mg := mg) (base := base) F__law_of G__law_take B
  have G__law_of : FnGD P w K mg base "_law_of" _ _ 2 ["pool", "some"] C__law_of := ⟨O__law_of, gm__law_of, F__law_of.kp, bn__law_of⟩
  have O__law_lowest := g__law_lowest (P := P) (w := w) (mg := mg) (base := base) F__law_lowest 
  have G__law_lowest : FnGD P w K mg base "_law_lowest" _ _ 1 ["top", "low"] C__law_lowest := ⟨O__law_lowest, gm__law_lowest, F__law_lowest.kp, bn__law_lowest⟩
  have O__law_parts := g__law_parts (P := P) (w := w) (mg := mg) (base := base) F__law_parts B G__law_take G__law_of
  have G__law_parts : FnGD P w K mg base "_law_parts" _ _ 3 ["pool", "cases"] C__law_parts := ⟨O__law_parts, gm__law_parts, F__law_parts.kp, bn__law_parts⟩
  have O__law_hall := g__law_hall (P := P) (w := w) (mg := mg) (base := base) F__law_hall G__law_take B G__law_parts G__law_lowest
  have G__law_hall : FnGD P w K mg base "_law_hall" _ _ 4 ["pool", "most", "odd"] C__law_hall := ⟨O__law_hall, gm__law_hall, F__law_hall.kp, bn__law_hall⟩
  have O__law_made := g__law_made (P := P) (w := w) (mg := mg) (base := base) F__law_made M_Hall
  have G__law_made : FnGD P w K mg base "_law_made" _ _ 13 ["d"] C__law_made := ⟨O__law_made, gm__law_made, F__law_made.kp, bn__law_made⟩
  have O__law_lot := g__law_lot (P := P) (w := w) (mg := mg) (base := base) F__law_lot B G__law_take
  have G__law_lot : FnGD P w K mg base "_law_lot" _ _ 2 ["pool", "cases"] C__law_lot := ⟨O__law_lot, gm__law_lot, F__law_lot.kp, bn__law_lot⟩
  have O__law_lots_right := g__law_lots_right (P := P) (w := w) (mg := mg) (base := base) F__law_lots_right B G_knows G_seen G_is_finer
  have G__law_lots_right : FnGD P w K mg base "_law_lots_right" _ _ 7 ["d", "hall", "one", "two"] C__law_lots_right := ⟨O__law_lots_right, gm__law_lots_right, F__law_lots_right.kp, bn__law_lots_right⟩
  have O__law_right := g__law_right (P := P) (w := w) (mg := mg) (base := base) F__law_right G__law_hall G__law_made B G__law_lot G__law_lots_right G_all_know G_knows G_for_ever G_depth G_pieces G_pooled G_seen
  have G__law_right : FnGD P w K mg base "_law_right" _ _ 14 ["pool", "most"] C__law_right := ⟨O__law_right, gm__law_right, F__law_right.kp, bn__law_right⟩
  have O_law := g_law (P := P) (w := w) (mg := mg) (base := base) F_law B G__law_pool G__law_right
  exact O_law
end Lw

set_option Elab.async false
set_option linter.all false
set_option maxRecDepth 100000
set_option maxHeartbeats 4000000
/-! M52a: what the module's own defs compute on good data. -/
namespace Lw
open PySem L2 Pm

theorem eq_of_run {α : Type} {m : M α} {S : List O} {v : α} (h : Run m S fun a S2 => a = v ∧ S2 = S) : m S = some (v, S) := by
  obtain ⟨a, S2, e, rfl, rfl⟩ := h; exact e
theorem run_is {α : Type} {m : M α} {S : List O} {v : α} {P : α → List O → Prop} (h : Run m S fun a S2 => a = v ∧ S2 = S) : Run m S P ↔ P v S := run_eq (eq_of_run h)
/-- a comprehension whose test and item are plain functions -/
theorem lcX {β : Type} {set : SetF} {mt : Pm.Env → M Bool} {me : Pm.Env → M D} {w : Pm.Env} {S : List O} {PL : List D → List O → Prop} {xs : List β} (c : β → D) (f : β → Bool) (g : β → D) (h : ∀ x ∈ xs, ∃ e, set (c x) w = some e ∧ (Run (mt e) S fun k S2 => k = f x ∧ S2 = S) ∧ (f x = true → Run (me e) S fun y S2 => y = g x ∧ S2 = S)) (k : PL ((xs.filter f).map g) S) : Run (lcLoop set mt me w (xs.map c)) S PL := by
  have key : ∀ l : List β, (∀ x ∈ l, ∃ e, set (c x) w = some e ∧ (Run (mt e) S fun k S2 => k = f x ∧ S2 = S) ∧ (f x = true → Run (me e) S fun y S2 => y = g x ∧ S2 = S)) → lcLoop set mt me w (l.map c) S = some ((l.filter f).map g, S) := by
    intro l
    induction l with
    | nil => intro _; rfl
    | cons d r ih =>
      intro hl
      obtain ⟨e, h1, h2, h3⟩ := hl d List.mem_cons_self
      have ir := ih fun x hx => hl x (List.mem_cons_of_mem _ hx)
      rw [List.map_cons]
      unfold lcLoop
      rw [h1]
      simp only
      rw [bnd_of (eq_of_run h2)]
      cases hf : f d with
      | true => rw [if_pos rfl, bnd_of (eq_of_run (h3 hf)), bnd_of ir, List.filter_cons_of_pos hf]; rfl
      | false => rw [if_neg Bool.false_ne_true, ir, List.filter_cons_of_neg (by rw [hf]; exact Bool.false_ne_true)]
  exact ⟨_, _, key xs h, k⟩
theorem lcA {β : Type} {set : SetF} {mt : Pm.Env → M Bool} {me : Pm.Env → M D} {w : Pm.Env} {S : List O} {PL : List D → List O → Prop} {xs : List β} (c : β → D) (q : β → Bool) (h : ∀ x ∈ xs, ∃ e, set (c x) w = some e ∧ (Run (mt e) S fun k S2 => k = true ∧ S2 = S) ∧ (Run (me e) S fun y S2 => y = .bl (q x) ∧ S2 = S)) (k : PL ((xs.map q).map .bl) S) : Run (lcLoop set mt me w (xs.map c)) S PL :=
  lcX c (fun _ => true) (fun x => .bl (q x)) (fun d hd => let ⟨e, h1, h2, h3⟩ := h d hd; ⟨e, h1, h2, fun _ => h3⟩) (by rw [List.filter_eq_self.mpr fun _ _ => rfl]; rw [List.map_map] at k; exact k)
/-! ### data -/
abbrev lotD (l : List Int) : D := .tup (l.map .int)
abbrev frD (p : Nat × Nat) : D := .tup [.int p.1, .int p.2]
abbrev chD (cs : List (Nat × Nat)) : D := .tup (cs.map frD)
abbrev Part := List Int × List (Nat × Nat)
abbrev prD (p : Part) : D := .tup [lotD p.1, chD p.2]
abbrev tlD (t : List Part) : D := .tup (t.map prD)
abbrev tsD (ts : List (List Part)) : D := .tup (ts.map tlD)
variable {S : List O} {P : D → List O → Prop}
@[simp] theorem sl1 : 1 ≤ sizeLine := by decide
@[simp] theorem sl2 : 2 ≤ sizeLine := by decide
@[simp] theorem sl3 : 3 ≤ sizeLine := by decide
@[simp] theorem sl4 : 4 ≤ sizeLine := by decide
@[simp] theorem sl5 : 5 ≤ sizeLine := by decide
@[simp] theorem sl6 : 6 ≤ sizeLine := by decide
@[simp] theorem sl7 : 7 ≤ sizeLine := by decide
theorem slb : 1000 < sizeLine := by decide
theorem sl_of {n : Nat} (h : n ≤ 1000) : n ≤ sizeLine := Nat.le_trans h (by decide)
theorem sl_lt {n : Nat} (h : n ≤ 1000) : n < sizeLine := Nat.lt_of_le_of_lt h (by decide)
theorem jS {α : Type} (x : Option α) : (some x).join = x := rfl
@[simp] theorem atI0 {α : Type} {x : α} {r : List α} : atI (x :: r) 0 = some x := atI_nat (j := 0) rfl
@[simp] theorem atI1 {α : Type} {x y : α} {r : List α} : atI (x :: y :: r) 1 = some y := atI_nat (j := 1) rfl
@[simp] theorem atI2 {α : Type} {x y z : α} {r : List α} : atI (x :: y :: z :: r) 2 = some z := atI_nat (j := 2) rfl
theorem e_is_whole (i : Int) (S : List O) : C_is_whole [.int i] S = some (.bl true, S) := rfl
@[simp] theorem r_is_whole {i : Int} : Run (C_is_whole [.int i]) S P ↔ P (.bl true) S := run_eq (e_is_whole i S)
@[simp] theorem r_is_number {i a : Int} : Run (C_is_number [.int i, .int a, .non]) S P ↔ P (.bl (decide (a ≤ i))) S := by
  unfold C_is_number m_is_number
  by_cases h : a ≤ i <;> simp [env0, h]
@[simp] theorem r_is_between {i a b : Int} : Run (C_is_between [.int i, .int a, .int b]) S P ↔ P (.bl (decide (a ≤ i ∧ i ≤ b))) S := by
  unfold C_is_between m_is_between
  by_cases h : a ≤ i <;> simp [env0, h]
theorem r_isiT {T : String} {d : D} {t : String} {b : Bool} (h : tyName d = some t) (h2 : kitB t T = some b) : Run (isiB T d) S P ↔ P (.bl b) S := by
  refine run_eq ?_
  simp [isiB, h, h2, Pm.ret]
@[simp] theorem r_isTup {ds : List D} : Run (isiB "tuple" (.tup ds)) S P ↔ P (.bl true) S := r_isiT rfl (by rfl)
@[simp] theorem r_is_tuple_of {ds : List D} {n : Int} : Run (C_is_tuple_of [.tup ds, .int n]) S P ↔ P (.bl (decide ((ds.length : Int) = n))) S := by
  unfold C_is_tuple_of m_is_tuple_of
  simp [env0]
@[simp] theorem r_is_row {ds : List D} {a b : Int} : Run (C_is_row [.tup ds, .int a, .int b]) S P ↔ P (.bl (decide (a ≤ (ds.length : Int) ∧ (ds.length : Int) ≤ b))) S := by
  unfold C_is_row m_is_row
  by_cases h : a ≤ (ds.length : Int) <;> simp [env0, h]
@[simp] theorem r_is_cases {n : Int} : Run (C_is_cases [.int n]) S P ↔ P (.bl (decide (2 ≤ n ∧ n ≤ 6))) S := by
  unfold C_is_cases m_is_cases
  simp [env0]
/-! ### fractions -/
def low (a b : Nat) : Nat × Nat := (a / Nat.gcd a b, b / Nat.gcd a b)
theorem small_log {g : Nat} (h : g < 2 ^ 64) : g.log2 < 9000 := by
  by_cases hz : g = 0
  · subst hz; decide
  · have := (Nat.log2_lt hz).mpr h; omega
theorem low_mul {w T : Nat} : (low w T).1 * T = w * (low w T).2 := by
  obtain ⟨a, ha⟩ := Nat.gcd_dvd_left w T
  obtain ⟨b, hb⟩ := Nat.gcd_dvd_right w T
  unfold low
  by_cases hg : Nat.gcd w T = 0
  · simp [hg, Nat.eq_zero_of_gcd_eq_zero_left hg]
  · have h1 : w / Nat.gcd w T = a := Nat.div_eq_of_eq_mul_right (Nat.pos_of_ne_zero hg) ha
    have h2 : T / Nat.gcd w T = b := Nat.div_eq_of_eq_mul_right (Nat.pos_of_ne_zero hg) hb
    show w / Nat.gcd w T * T = w * (T / Nat.gcd w T)
    rw [h1, h2]
    generalize Nat.gcd w T = g at ha hb
    subst ha hb
    grind
theorem low_pos {w T : Nat} (hT : 0 < T) : 0 < (low w T).2 := Nat.div_pos (Nat.gcd_le_right _ hT) (Nat.gcd_pos_of_pos_right _ hT)
theorem low_pos1 {w T : Nat} (hw : 0 < w) : 0 < (low w T).1 := Nat.div_pos (Nat.gcd_le_left _ hw) (Nat.gcd_pos_of_pos_left _ hw)
theorem low_le {w T : Nat} : (low w T).2 ≤ T := Nat.div_le_self _ _
theorem low_cop {w T : Nat} (hT : 0 < T) : Nat.gcd (low w T).1 (low w T).2 = 1 := Nat.coprime_div_gcd_div_gcd (Nat.gcd_pos_of_pos_right _ hT)
@[simp] theorem r_lowest {a b : Nat} (hb : 0 < b) (hb2 : b < 2 ^ 64) : Run (C_lowest [.int a, .int b]) S P ↔ P (frD (low a b)) S := by
  unfold C_lowest m_lowest
  have hg : 0 < Nat.gcd a b := Nat.gcd_pos_of_pos_right _ hb
  have hgl : Nat.gcd a b ≤ b := Nat.gcd_le_right _ hb
  have hd : ∀ i : Int, CDivW i ((Nat.gcd a b : Nat) : Int) := fun i => ⟨by omega, by
    rw [Int.natAbs_natCast]; exact small_log (by omega)⟩
  simp only [run_body, env0, List.map_cons, List.map_nil, List.length_cons, List.length_nil]
  simp only [Nat.reduceAdd, Nat.reduceSub, List.replicate_succ, List.replicate_zero, List.cons_append, List.nil_append, run_seqM, run_setM, run_valM]
  rw [run_evS_same rfl]
  simp [hb, hd, low]
  simp only [frD, Int.natCast_ediv]
@[simp] theorem r_is_fraction {p : Nat × Nat} (h : 0 < p.2) (hc : Nat.gcd p.1 p.2 = 1) : Run (C_is_fraction [frD p]) S P ↔ P (.bl true) S := by
  unfold C_is_fraction m_is_fraction
  have h1 : (1 : Int) ≤ (p.2 : Int) := by omega
  simp [env0, h1, hc]
theorem r_plus {p q : Nat × Nat} (h1 : 0 < p.2) (h2 : 0 < q.2) (b1 : p.1 < 2 ^ 30) (b2 : p.2 < 2 ^ 30) (b3 : q.1 < 2 ^ 30) (b4 : q.2 < 2 ^ 30) : Run (C_plus [frD p, frD q]) S P ↔ P (frD (low (p.1 * q.2 + q.1 * p.2) (p.2 * q.2))) S := by
  unfold C_plus m_plus
  have c1 : CMul (p.1 : Int) (q.2 : Int) := .inl (by omega)
  have c2 : CMul (q.1 : Int) (p.2 : Int) := .inl (by omega)
  have c3 : CMul (p.2 : Int) (q.2 : Int) := .inl (by omega)
  have hm : p.2 * q.2 < 2 ^ 64 := Nat.lt_of_lt_of_le (Nat.mul_lt_mul'' b2 b4) (by decide)
  have e1 : ((p.1 : Int) * (q.2 : Int) + (q.1 : Int) * (p.2 : Int)) = ((p.1 * q.2 + q.1 * p.2 : Nat) : Int) := by simp
  have e2 : ((p.2 : Int) * (q.2 : Int)) = ((p.2 * q.2 : Nat) : Int) := by simp
  simp only [run_body, env0, List.map_cons, List.map_nil, List.length_cons, List.length_nil]
  simp [c1, c2, c3]
  rw [e1, e2, r_lowest (Nat.mul_pos h1 h2) hm]
theorem mem_le_sum : ∀ {ws : List Nat} {w : Nat}, w ∈ ws → w ≤ ws.sum
  | x :: r, w, h => by
    rw [List.sum_cons]
    rcases List.mem_cons.mp h with h | h
    · omega
    · have := mem_le_sum h; omega
/-- the sum of w / T, w of ws, is one where T is their sum -/
theorem r_sum_of {ws : List Nat} {T : Nat} (hT : 0 < T) (hT2 : T < 2 ^ 14) (hs : ws.sum = T) : Run (C_sum_of [.tup (ws.map fun w => frD (low w T))]) S P ↔ P (frD (1, 1)) S := by
  have key : ∀ P : D → List O → Prop, P (frD (1, 1)) S → Run (C_sum_of [.tup (ws.map fun w => frD (low w T))]) S P := by
    intro P hP
    unfold C_sum_of m_sum_of
    simp only [run_body, env0, List.map_cons, List.map_nil, List.length_cons, List.length_nil]
    simp only [Nat.reduceAdd, Nat.reduceSub, List.replicate_succ, List.replicate_zero, List.cons_append, List.nil_append, run_seqM, run_setM, run_valM]
    rw [run_evS_same rfl]
    simp only [run_cM, List.set_cons_succ, List.set_cons_zero, run_forM, str_val, str_none, str_nil, run_itM, run_getv, List.getElem?_cons_zero, jS, Option.some.injEq, exists_eq_left', run_itT]
    refine run_forL (fun rest e S1 => S1 = S ∧ ∃ (vs : List Nat) (p q : Nat) (o : Option Slot), rest = vs.map (fun w => frD (low w T)) ∧ (∀ w ∈ vs, w ≤ T) ∧ vs.sum ≤ T ∧ 0 < q ∧ q ≤ T ∧ Nat.gcd p q = 1 ∧ p * T = q * (T - vs.sum) ∧ e = [some (.val (.tup (ws.map fun w => frD (low w T)))), some (.val (frD (p, q))), o]) _
      ⟨rfl, ws, 0, 1, none, rfl, fun w hw => by rw [← hs]; exact mem_le_sum hw, by omega, by omega, by omega, rfl, by rw [hs]; omega, rfl⟩ ?_ ?_
    · rintro d r e S1 ⟨rfl, vs, p, q, o, hr, hle, hv, hq, hqT, hc, hpq, rfl⟩
      cases vs with
      | nil => cases hr
      | cons w vs =>
        rw [List.map_cons] at hr
        injection hr with h1 h2
        subst h1 h2
        refine ⟨_, rfl, ?_⟩
        rw [List.sum_cons] at hv hpq
        have hd := low_pos (w := w) hT
        have hdT := low_le (w := w) (T := T)
        have hm := low_mul (w := w) (T := T)
        generalize low w T = f at hd hdT hm
        obtain ⟨c, d⟩ := f
        simp only at hd hdT hm
        have hpT : p ≤ T := by
          have : p * T ≤ T * T := by rw [hpq]; exact Nat.mul_le_mul hqT (by omega)
          exact Nat.le_of_mul_le_mul_right this hT
        have hcT : c ≤ T := by
          have : c * T ≤ T * T := by rw [hm]; exact Nat.mul_le_mul (hle w List.mem_cons_self) hdT
          exact Nat.le_of_mul_le_mul_right this hT
        simp only [setNS, List.set_cons_succ, List.set_cons_zero, run_setM, run_valM]
        rw [run_evS_same rfl]
        simp only [run_callF, run_consA, run_getv, run_nilM, bor_val, bor_nil, List.getElem?_cons_zero, List.getElem?_cons_succ, jS, Option.some.injEq, exists_eq_left', List.length_cons, List.length_nil, true_and]
        rw [r_plus (p := (p, q)) (q := (c, d)) hq hd (by show p < _; omega) (by show q < _; omega) (by show c < _; omega) (by show d < _; omega)]
        have hpos : 0 < q * d := Nat.mul_pos hq hd
        have l1 := low_pos (w := p * d + c * q) hpos
        have l2 := low_mul (w := p * d + c * q) (T := q * d)
        have l3 := low_cop (w := p * d + c * q) hpos
        have l4 := low_le (w := p * d + c * q) (T := q * d)
        generalize low (p * d + c * q) (q * d) = f2 at l1 l2 l3 l4
        obtain ⟨p2, q2⟩ := f2
        simp only at l1 l2 l3 l4
        have hv2 : vs.sum ≤ T := by omega
        have main : p2 * T = q2 * (T - vs.sum) := by
          obtain ⟨u, hu⟩ : ∃ u, T = u + (w + vs.sum) := ⟨T - (w + vs.sum), by omega⟩
          have e1 : T - (w + vs.sum) = u := by omega
          have e2 : T - vs.sum = u + w := by omega
          rw [e1] at hpq
          rw [e2]
          have : p2 * T * (q * d) = q2 * (u + w) * (q * d) := by grind
          exact Nat.eq_of_mul_eq_mul_right hpos this
        refine ⟨rfl, vs, p2, q2, _, rfl, fun x hx => hle x (List.mem_cons_of_mem _ hx), hv2, l1, ?_, l3, main, rfl⟩
        have : q2 ∣ p2 * T := ⟨_, main⟩
        exact Nat.le_of_dvd hT (Nat.Coprime.dvd_of_dvd_mul_left (Nat.Coprime.symm l3) this)
    · rintro e S1 ⟨rfl, vs, p, q, o, hr, hle, hv, hq, hqT, hc, hpq, rfl⟩
      cases vs with
      | cons w vs => cases hr
      | nil =>
        rw [List.sum_nil, Nat.sub_zero] at hpq
        have e : p = q := Nat.eq_of_mul_eq_mul_right hT hpq
        subst e
        rw [Nat.gcd_self] at hc
        subst hc
        simpa using hP
  refine ⟨fun h => ?_, key P⟩
  obtain ⟨a, S', e, hp⟩ := h
  obtain ⟨a2, S2, e2, h2⟩ := key (fun d S2 => d = frD (1, 1) ∧ S2 = S) ⟨rfl, rfl⟩
  rw [e] at e2; cases e2
  rw [← h2.1, ← h2.2]; exact hp
@[simp] theorem run_cutT {ds : List D} {lo hi : Option Int} : Run (cutD (.tup ds) lo hi) S P ↔ P (.tup (cutG ds lo hi)) S := run_ret
@[simp] theorem run_cutL {ds : List D} {lo hi : Option Int} : Run (cutD (.lst ds) lo hi) S P ↔ P (.lst (cutG ds lo hi)) S := run_ret
@[simp] theorem run_cutS {ns : List Int} {lo hi : Option Int} : Run (cutD (.scr ns) lo hi) S P ↔ P (.lst ((cutG ns lo hi).map .int)) S := run_ret
@[simp] theorem run_zipT {xs ys : List D} {PL : List D → List O → Prop} : Run (zipD [.tup xs, .tup ys]) S PL ↔ PL ((xs.zip ys).map fun p => .tpl [p.1, p.2]) S := run_ret
theorem all_id (bs : List Bool) (h : ∀ b ∈ bs, b = true) : bs.all id = true := by
  rw [List.all_eq_true]; exact h
theorem cut_tail {α : Type} (xs : List α) : cutG xs (some 1) none = xs.tail := by
  unfold cutG
  rw [show HT.sIx xs.length 0 (some 1) = min 1 xs.length from HT.sIx_nat xs.length 0 1, HT.sIx_none]
  cases xs with
  | nil => rfl
  | cons x r =>
    rw [show min 1 (x :: r).length = 1 by rw [List.length_cons]; omega]
    show (List.take ((x :: r).length - 1) r) = r
    rw [List.length_cons, Nat.add_sub_cancel]
    exact List.take_length
def Lot (n : Int) (l : List Int) : Prop := (∀ x ∈ l, 0 ≤ x ∧ x < n) ∧ l.Pairwise (· < ·) ∧ l.length ≤ 100
theorem zip_tail_lt : ∀ {l : List Int}, l.Pairwise (· < ·) → ∀ p ∈ l.zip l.tail, p.1 < p.2
  | [], _, p, h => by simp at h
  | [_], _, p, h => by simp at h
  | x :: y :: r, hp, p, h => by
    simp only [List.tail_cons, List.zip_cons_cons, List.mem_cons] at h
    rcases h with rfl | h
    · exact (List.pairwise_cons.mp hp).1 y List.mem_cons_self
    · exact zip_tail_lt (List.pairwise_cons.mp hp).2 p h
theorem r_is_lot_of {n : Int} {l : List Int} (h : Lot n l) : Run (C_is_lot_of [.int n, lotD l]) S P ↔ P (.bl true) S := by
  refine run_is ?_
  unfold C_is_lot_of m_is_lot_of
  have hz : (l.map D.int).length < sizeLine := sl_lt (by rw [List.length_map]; have := h.2.2; omega)
  simp only [run_body, env0, List.map_cons, List.map_nil, List.length_cons, List.length_nil]
  simp [wipeE]
  refine ⟨by simpa using hz, lcA D.int (fun _ => true) ?_ ?_⟩
  · intro x hx
    have := h.1 x hx
    refine ⟨_, rfl, ?_, ?_⟩
    · simp
    · simp; omega
  · rw [run_all]
    simp [cut_tail, wipeE]
    have hl := h.2.2
    have hb := slb
    refine ⟨by omega, ?_⟩
    rw [← List.map_tail, List.zip_map, List.map_map]
    refine lcA _ (fun _ => true) ?_ ?_
    · intro p2 hp2
      have := zip_tail_lt h.2.1 p2 hp2
      refine ⟨_, rfl, ?_, ?_⟩
      · simp
      · simp [this]
    · rw [run_all]
      simp
theorem pys_int : ∀ l : List Int, D.toPys (l.map .int) = some (l.map .int)
  | [] => rfl
  | x :: r => by simp [D.toPys, D.toPy, pys_int r]
theorem py_lot (l : List Int) : (lotD l).toPy = some (.tuple (l.map .int)) := by simp [D.toPy, pys_int]
theorem lay_int : ∀ l : List Int, PyData.canLayAll0 (l.map .int) = true
  | [] => rfl
  | x :: r => by simp [PyData.canLayAll0, PyData.canLay0, lay_int r]
theorem dep_int : ∀ l : List Int, PyData.depthAll (l.map .int) = 0
  | [] => rfl
  | x :: r => by simp [PyData.depthAll, PyData.depth, dep_int r]
theorem sh_lot (l : List Int) : SeqAt.shaped (.tuple (l.map .int)) = true := by
  unfold SeqAt.shaped
  simp [PyData.canLay0, PyData.depth, lay_int, dep_int]
theorem eq_py {g : Bool → Bool} {x y : D} {p q : PyData} (h1 : x.toPy = some p) (h2 : y.toPy = some q) (s1 : SeqAt.shaped p = true) (s2 : SeqAt.shaped q = true) : Run (eqP g x y) S P ↔ P (.bl (g (PyData.eqv p q))) S := by
  refine run_eq ?_
  unfold eqP
  rw [h1, h2]
  simp only [s1, s2, and_self, if_true]
  rfl
theorem e_lot0 {l : List Int} (h : l ≠ []) : Run (eqD (lotD l) (.tup [])) S P ↔ P (.bl false) S := by
  unfold eqD
  rw [show D.tup [] = lotD [] from rfl, eq_py (py_lot l) (py_lot []) (sh_lot l) (sh_lot [])]
  cases l with
  | nil => exact absurd rfl h
  | cons x r => rfl
theorem e_one : Run (eqD (frD (1, 1)) (.tup [.int 1, .int 1])) S P ↔ P (.bl true) S := run_eq rfl
/-- good chances: w / T, w of ws, T their sum -/
def chs (ws : List Nat) : List (Nat × Nat) := ws.map fun w => low w ws.sum
structure Wts (ws : List Nat) : Prop where
  pos : ∀ w ∈ ws, 0 < w
  ne : ws ≠ []
  sm : ws.sum < 2 ^ 14
  ln : ws.length ≤ 100
theorem Wts.sum_pos {ws : List Nat} (h : Wts ws) : 0 < ws.sum := by
  cases ws with
  | nil => exact absurd rfl h.ne
  | cons w r => have := h.pos w List.mem_cons_self; rw [List.sum_cons]; omega
theorem r_are_chances {ws : List Nat} (h : Wts ws) : Run (C_are_chances [chD (chs ws), .int ws.length]) S P ↔ P (.bl true) S := by
  refine run_is ?_
  unfold C_are_chances m_are_chances
  have hp := h.sum_pos
  have hl := h.ln
  have hb := slb
  simp only [run_body, env0, List.map_cons, List.map_nil, List.length_cons, List.length_nil]
  simp [wipeE, chs]
  refine ⟨by omega, lcA _ (fun _ => true) ?_ ?_⟩
  · intro w hw
    refine ⟨_, rfl, ?_, ?_⟩
    · simp
    · have h1 := low_pos (w := w) hp
      have h2 := low_cop (w := w) hp
      have h3 := low_pos1 (w := w) (T := ws.sum) (h.pos w hw)
      simp [r_is_fraction h1 h2]
      omega
  · rw [run_all]
    simp
    rw [show chD (ws.map fun w => low w ws.sum) = .tup (ws.map fun w => frD (low w ws.sum)) by simp only [chD, List.map_map]; rfl, r_sum_of hp h.sm rfl, e_one]
    simp
/-- a good part -/
structure PartOk (n : Int) (p : Part) : Prop where
  lot : Lot n p.1
  ne : p.1 ≠ []
  ch : ∃ ws : List Nat, Wts ws ∧ ws.length = p.1.length ∧ p.2 = chs ws
theorem r_is_part {n : Int} {p : Part} (h : PartOk n p) : Run (C_is_part [.int n, prD p]) S P ↔ P (.bl true) S := by
  obtain ⟨l, cs⟩ := p
  obtain ⟨hl, hn, ws, hw, hlen, hc⟩ := h
  simp only at hl hn hlen hc
  subst hc
  refine run_is ?_
  unfold C_is_part m_is_part
  simp only [run_body, env0, List.map_cons, List.map_nil, List.length_cons, List.length_nil]
  simp [r_is_lot_of hl, e_lot0 hn]
  rw [← hlen, r_are_chances hw]
  simp
theorem pures_int : ∀ l : List Int, D.pures (l.map .int) = true
  | [] => rfl
  | x :: r => by simp [D.pures, D.pure, pures_int r]
/-! ### tellings -/
theorem lc2X {β : Type} {set set1 : SetF} {mt mt1 : Pm.Env → M Bool} {mi1 : Pm.Env → M (List D)} {me : Pm.Env → M D} {vs1 : List Nat} {w : Pm.Env} {S : List O} {PL : List D → List O → Prop} {xs : List β} (c : β → D) (g : β → List D)
    (h : ∀ x ∈ xs, ∃ e, set (c x) w = some e ∧ (Run (mt e) S fun k S2 => k = true ∧ S2 = S) ∧ Run (mi1 e) S fun es S2 => S2 = S ∧ Run (lcLoop set1 mt1 me (wipeE e vs1) es) S fun ys S3 => ys = g x ∧ S3 = S) (k : PL (xs.flatMap g) S) : Run (lc2Loop set mt mi1 set1 mt1 me vs1 w (xs.map c)) S PL := by
  have key : ∀ l : List β, (∀ x ∈ l, ∃ e, set (c x) w = some e ∧ (Run (mt e) S fun k S2 => k = true ∧ S2 = S) ∧ Run (mi1 e) S fun es S2 => S2 = S ∧ Run (lcLoop set1 mt1 me (wipeE e vs1) es) S fun ys S3 => ys = g x ∧ S3 = S) → lc2Loop set mt mi1 set1 mt1 me vs1 w (l.map c) S = some (l.flatMap g, S) := by
    intro l
    induction l with
    | nil => intro _; rfl
    | cons d r ih =>
      intro hl
      obtain ⟨e, h1, h2, es, S2, h3, rfl, h4⟩ := hl d List.mem_cons_self
      have ir := ih fun x hx => hl x (List.mem_cons_of_mem _ hx)
      rw [List.map_cons]
      unfold lc2Loop
      rw [h1]
      simp only
      rw [bnd_of (eq_of_run h2), if_pos rfl, bnd_of h3, bnd_of (eq_of_run h4), bnd_of ir, List.flatMap_cons]
      rfl
  exact ⟨_, _, key xs h, k⟩
@[simp] theorem run_lc2M {vs vs1 : List Nat} {mi mi1 : Pm.Env → M (List D)} {set set1 : SetF} {mt mt1 : Pm.Env → M Bool} {me : Pm.Env → M D} {env : Pm.Env} {PL : List D → List O → Prop} : Run (lc2M vs vs1 mi set mt mi1 set1 mt1 me env) S PL ↔ Run (mi env) S fun ds S1 => Run (lc2Loop set mt mi1 set1 mt1 me vs1 (wipeE env vs) ds) S1 fun tot S2 => tot.length ≤ sizeLine ∧ PL tot S2 := by
  unfold lc2M; simp only [run_bnd, run_ite, run_ret, run_stuck]; simp
theorem ints_map : ∀ l : List Int, D.ints (l.map .int) = some l
  | [] => rfl
  | x :: r => by simp [D.ints, ints_map r]
@[simp] theorem run_sorted {l : List Int} : Run (sortedD [.lst (l.map .int)]) S P ↔ P (.lst ((sortI l).map .int)) S := by
  refine run_eq ?_
  simp [sortedD, listInts, ints_map, Pm.ret]
@[simp] theorem run_rgA1 {n : Int} {Q : Int × Int → List O → Prop} : Run (rgA1 (.int n)) S Q ↔ Q (0, n) S := run_ret
def rng (n : Nat) : List Int := (List.range n).map fun i : Nat => (i : Int)
theorem rgD_rng (n : Nat) : rgD 0 n = (rng n).map .int := by
  unfold rgD rng
  rw [List.map_map]
  exact List.map_congr_left fun i _ => by simp
theorem py_lst (l : List Int) : (D.lst (l.map .int)).toPy = some (.list (l.map .int)) := by simp [D.toPy, pys_int]
theorem sh_lst (l : List Int) : SeqAt.shaped (.list (l.map .int)) = true := by
  unfold SeqAt.shaped
  simp [PyData.canLay0, PyData.depth, lay_int, dep_int]
theorem e_lst {l : List Int} : Run (eqD (.lst (l.map .int)) (.lst (l.map .int))) S P ↔ P (.bl true) S := by
  unfold eqD
  rw [eq_py (py_lst l) (py_lst l) (sh_lst l) (sh_lst l), SeqAt.eqv_refl _ (Bool.and_eq_true_iff.mp (sh_lst l)).1]
  rfl
theorem r_lrD {n : Nat} (hn : n ≤ 100) : Run (lrD (0, (n : Int))) S P ↔ P (.lst ((rng n).map .int)) S := by
  refine run_eq ?_
  have h : RgOk 0 (n : Int) := ⟨by omega, by omega, by omega, by omega⟩
  unfold lrD
  rw [if_pos h]
  simp [rgD_rng, Pm.ret]
theorem r_trD {n : Nat} (hn : n ≤ 100) : Run (trD (0, (n : Int))) S P ↔ P (lotD (rng n)) S := by
  refine run_eq ?_
  have h : RgOk 0 (n : Int) := ⟨by omega, by omega, by omega, by omega⟩
  unfold trD
  rw [if_pos h]
  simp [rgD_rng, Pm.ret]
structure TellOk (n : Nat) (t : List Part) : Prop where
  ln : t.length ≤ 100
  pt : ∀ p ∈ t, PartOk n p
  fs : (t.map fun p => p.1.headD 0).Pairwise (· ≤ ·)
  ev : (rng n).Perm (t.flatMap (·.1))
theorem rng_sorted (n : Nat) : (rng n).Pairwise (· < ·) := by
  unfold rng
  rw [List.pairwise_map]
  exact List.pairwise_lt_range.imp fun h => by omega
theorem r_is_telling {n : Nat} (hn : n ≤ 100) {t : List Part} (h : TellOk n t) : Run (C_is_telling [.int n, tlD t]) S P ↔ P (.bl true) S := by
  refine run_is ?_
  unfold C_is_telling m_is_telling
  have hb := slb
  have hl := h.ln
  simp only [run_body, env0, List.map_cons, List.map_nil, List.length_cons, List.length_nil]
  simp [wipeE]
  refine ⟨by omega, lcA _ (fun _ => true) ?_ ?_⟩
  · intro p hp
    refine ⟨_, rfl, ?_, ?_⟩
    · simp
    · simp [r_is_part (h.pt p hp)]
  · rw [run_all]
    simp
    have hs1 : sortI (t.map fun p => p.1.headD 0) = t.map fun p => p.1.headD 0 := (sortI_eq (List.Perm.refl _) h.fs).symm
    have hs2 : sortI (t.flatMap (·.1)) = rng n := (sortI_eq h.ev ((rng_sorted n).imp fun h => by omega)).symm
    refine run_evL ?_
    simp [wipeE]
    refine ⟨by omega, lcX _ (fun _ => true) (fun p => .int (p.1.headD 0)) ?_ ?_⟩
    · rintro ⟨l, cs⟩ hp
      have ne := (h.pt _ hp).ne
      cases l with
      | nil => exact absurd rfl ne
      | cons x r =>
        refine ⟨_, rfl, ?_, fun _ => ?_⟩
        · simp
        · simp
    · have ef : (t.filter fun _ => true) = t := List.filter_eq_self.mpr fun _ _ => rfl
      rw [ef]
      rw [show (t.map fun p => D.int (p.1.headD 0)) = (t.map fun p => p.1.headD 0).map .int by rw [List.map_map]; rfl]
      refine ⟨pures_int _, run_evL ?_⟩
      simp only [run_lc2M, run_itM, bor_val, bor_none, bor_nil, run_getv, List.getElem?_cons_succ, List.getElem?_cons_zero, jS, Option.some.injEq, exists_eq_left', run_itT]
      refine lc2X _ (fun p => p.1.map .int) ?_ ?_
      · rintro ⟨l, cs⟩ hp
        have pk := h.pt _ hp
        refine ⟨_, rfl, ?_, ?_⟩
        · simp
        · simp [wipeE]
          refine lcX _ (fun _ => true) D.int ?_ ?_
          · intro x hx
            refine ⟨_, rfl, ?_, fun _ => ?_⟩
            · simp
            · simp
          · rw [List.filter_eq_self.mpr fun _ _ => rfl]
            exact ⟨rfl, rfl⟩
      · have e2 : (t.flatMap fun p => p.1.map D.int) = (t.flatMap (·.1)).map .int := (List.map_flatMap).symm
        rw [e2]
        have hlen : (t.flatMap (·.1)).length = n := by
          rw [← h.ev.length_eq]; simp [rng]
        refine ⟨by rw [List.length_map, hlen]; omega, pures_int _, ?_⟩
        generalize (t.map fun p => p.1.headD 0) = fs at hs1 ⊢
        generalize (t.flatMap (·.1)) = ev at hs2 ⊢
        simp [setL]
        rw [hs1, e_lst]
        simp
        rw [hs2, r_lrD hn, e_lst]
        simp
end Lw

set_option Elab.async false
set_option linter.all false
set_option maxRecDepth 100000
set_option maxHeartbeats 4000000
/-! M52b: halls made; what they tell. -/
namespace Lw
open PySem L2 Pm
variable {S : List O} {P : D → List O → Prop}
theorem eq_of_run2 {α : Type} {m : M α} {S S' : List O} {v : α} (h : Run m S fun a S2 => a = v ∧ S2 = S') : m S = some (v, S') := by
  obtain ⟨a, S2, e, rfl, rfl⟩ := h; exact e
@[simp] theorem run_lamC {y : Str} {js : List Nat} {me : Pm.Env → M D} {R : List D → D → M D} {env : Pm.Env} : Run (lamC y js me R env) S P ↔ Run (me env) S fun d S1 => ∃ cap, capM js env = some cap ∧ hasTab y S1 = true ∧ Run (R cap d) S1 P := by
  unfold lamC
  simp only [run_bnd]
  refine ⟨fun h => h.mono fun d S1 q => ?_, fun h => h.mono fun d S1 q => ?_⟩
  · obtain ⟨a, S2, e, p⟩ := q
    cases hc : capM js env with
    | none => simp only [hc] at e; cases e
    | some cap =>
      simp only [hc] at e
      split at e
      · exact ⟨cap, rfl, by assumption, a, S2, e, p⟩
      · cases e
  · obtain ⟨cap, hc, ht, a, S2, e, p⟩ := q
    exact ⟨a, S2, by simp only [hc]; rw [if_pos ht]; exact e, p⟩
theorem fwL_ok {g : List D → M D} {all : List D} : ∀ (r : List D) (i : Nat), (∀ d ∈ r, ∀ pre, Run (g [d, .tup pre]) S fun y S2 => y = .bl true ∧ S2 = S) → fwL g all r i S = some (.non, S)
  | [], _, _ => rfl
  | d :: r, i, h => by
    unfold fwL
    rw [bnd_of (eq_of_run (h d List.mem_cons_self _))]
    exact fwL_ok r (i + 1) fun x hx => h x (List.mem_cons_of_mem _ hx)
@[simp] theorem run_fstoM {c f : Str} {me mo : Pm.Env → M D} {se : SEnv} {PF : Flo → List O → Prop} : Run (fstoM c f me mo se) S PF ↔ Run (evS me se) S fun v S1 => Run (mo (str se)) S1 fun o S2 => Run (fstoD c f o v) S2 fun _ S3 => PF (.nx se) S3 := by
  unfold fstoM; simp only [run_bnd, run_ret]
theorem r_fstoD {c f : Str} {l : Nat} {ns : List Str} {ds : List D} {v : D} {PU : Unit → List O → Prop} (h : S[l]? = some (.ins c ns ds)) (hv : v.pure = true) (hn : ns.length < 1000) : Run (fstoD c f (.ref l) v) S PU ↔ PU () (S.set l (.ins c ((putG f v (ns.zip ds)).map (·.1)) ((putG f v (ns.zip ds)).map (·.2)))) := by
  refine run_eq ?_
  unfold fstoD
  simp only [h]
  rw [if_pos ⟨trivial, hv, hn⟩]
theorem pures_all : ∀ {ds : List D}, (∀ d ∈ ds, d.pure = true) → D.pures ds = true
  | [], _ => rfl
  | d :: r, h => by rw [D.pures, h d List.mem_cons_self, pures_all fun x hx => h x (List.mem_cons_of_mem _ hx)]; rfl
theorem pure_lot (l : List Int) : (lotD l).pure = true := pures_int l
theorem pure_part (p : Part) : (prD p).pure = true := by
  have h : D.pures (p.2.map frD) = true := pures_all fun d hd => by
    obtain ⟨q, _, rfl⟩ := List.mem_map.mp hd; rfl
  simp [D.pure, D.pures, pures_int, h]
theorem pure_tell (t : List Part) : (tlD t).pure = true := pures_all fun d hd => by
  obtain ⟨q, _, rfl⟩ := List.mem_map.mp hd; exact pure_part q
theorem pure_tells (ts : List (List Part)) : (tsD ts).pure = true := pures_all fun d hd => by
  obtain ⟨q, _, rfl⟩ := List.mem_map.mp hd; exact pure_tell q
structure HallOk (n : Nat) (ts : List (List Part)) : Prop where
  lo : 2 ≤ n
  hi : n ≤ 6
  t1 : 1 ≤ ts.length
  t3 : ts.length ≤ 3
  tl : ∀ t ∈ ts, TellOk n t
theorem r_wrong_telling {n : Nat} {ts : List (List Part)} (h : HallOk n ts) (ht : hasTab "wrong_telling" S = true) : Run (C_wrong_telling [.int n, tsD ts]) S P ↔ P .non S := by
  refine run_is ?_
  unfold C_wrong_telling m_wrong_telling
  simp only [run_body, env0, List.map_cons, List.map_nil, List.length_cons, List.length_nil]
  simp [ht, capM]
  refine ⟨.non, S, fwL_ok _ _ ?_, rfl, rfl⟩
  intro d hd pre
  obtain ⟨t, hm, rfl⟩ := List.mem_map.mp hd
  have hn := h.hi
  simp [lamG, r_is_telling (show n ≤ 100 by omega) (h.tl t hm)]
theorem r_check_tellings {n : Nat} {ts : List (List Part)} (h : HallOk n ts) (ht : hasTab "wrong_telling" S = true) : Run (C_check_tellings [.int n, tsD ts]) S P ↔ P .non S := by
  refine run_is ?_
  unfold C_check_tellings m_check_tellings
  have h1 := h.t1
  have h3 := h.t3
  simp only [run_body, env0, List.map_cons, List.map_nil, List.length_cons, List.length_nil]
  simp [show (1 : Int) ≤ ts.length by omega, show (ts.length : Int) ≤ 3 by omega]
  rw [run_evS_same rfl]
  simp [r_wrong_telling h ht]
abbrev hallD (n : Nat) (ts : List (List Part)) : D := .obj "Hall" ["cases", "tellings"] [.int n, tsD ts]
theorem r_init {n : Nat} {ts : List (List Part)} (h : HallOk n ts) (ht : hasTab "wrong_telling" S = true) : Run (C_Hall_init [.ref S.length, .int n, tsD ts]) (S ++ [.ins "Hall" [] []]) P ↔ P .non (S ++ [.ins "Hall" ["cases", "tellings"] [.int n, tsD ts]]) := by
  have ht2 : hasTab "wrong_telling" (S ++ [.ins "Hall" [] []]) = true := by unfold hasTab at ht ⊢; rw [List.any_append, ht]; rfl
  refine run_eq (eq_of_run2 ?_)
  unfold C_Hall_init m_Hall_init
  have h1 := h.lo
  have h3 := h.hi
  simp only [run_body, env0, List.map_cons, List.map_nil, List.length_cons, List.length_nil]
  simp [show (2 : Int) ≤ n by omega, show (n : Int) ≤ 6 by omega, r_check_tellings h ht2]
  rw [run_evS_same rfl]
  simp
  rw [r_fstoD (ns := []) (ds := []) (by simp) rfl (by decide)]
  simp
  rw [run_evS_same rfl]
  simp
  rw [r_fstoD (ns := ["cases"]) (ds := [.int n]) (by simp [putG]) (pure_tells ts) (by decide)]
  simp [putG]
  rw [if_neg (by decide)]
  exact ⟨rfl, rfl⟩
theorem unds_all {n : Nat} : ∀ {ds : List D}, (∀ d ∈ ds, d.und n) → D.unds n ds
  | [], _ => True.intro
  | d :: r, h => ⟨h d List.mem_cons_self, unds_all fun x hx => h x (List.mem_cons_of_mem _ hx)⟩
theorem und_tells (k : Nat) (ts : List (List Part)) : (tsD ts).und k := by
  have hI : ∀ l : List Int, D.unds k (l.map .int) := fun l => unds_all fun d hd => by
    obtain ⟨x, _, rfl⟩ := List.mem_map.mp hd; exact True.intro
  have hF : ∀ l : List (Nat × Nat), D.unds k (l.map frD) := fun l => unds_all fun d hd => by
    obtain ⟨x, _, rfl⟩ := List.mem_map.mp hd; exact ⟨True.intro, True.intro, True.intro⟩
  refine unds_all fun d hd => ?_
  obtain ⟨t, _, rfl⟩ := List.mem_map.mp hd
  refine unds_all fun d hd => ?_
  obtain ⟨p, _, rfl⟩ := List.mem_map.mp hd
  exact ⟨hI _, hF _, True.intro⟩
theorem r_make {n : Nat} {ts : List (List Part)} (h : HallOk n ts) (ht : hasTab "wrong_telling" S = true) : Run (makeD "Hall" 3 C_Hall_init [.int n, tsD ts]) S P ↔ P (hallD n ts) S := by
  refine run_eq ?_
  have hi := eq_of_run2 ((r_init (P := fun a S2 => a = .non ∧ S2 = S ++ [.ins "Hall" ["cases", "tellings"] [.int n, tsD ts]]) h ht).mpr ⟨rfl, rfl⟩)
  unfold makeD
  rw [if_pos (show [D.int n, tsD ts].length + 1 = 3 from rfl), hi]
  have hg : (S ++ [O.ins "Hall" ["cases", "tellings"] [.int n, tsD ts]])[S.length]? = some (O.ins "Hall" ["cases", "tellings"] [.int n, tsD ts]) := by simp
  simp only [hg]
  rw [if_pos ⟨rfl, rfl, True.intro, und_tells _ _, True.intro⟩]
abbrev dD (n : Nat) (ts : List (List Part)) : D := .dct [.inr "cases", .inr "tellings"] [.int n, tsD ts]
@[simp] theorem r_dcases {n : Nat} {ts : List (List Part)} : Run (dgetD (dD n ts) (.str "cases")) S P ↔ P (.int n) S := run_eq rfl
@[simp] theorem r_dtells {n : Nat} {ts : List (List Part)} : Run (dgetD (dD n ts) (.str "tellings")) S P ↔ P (tsD ts) S := run_eq rfl
theorem r_made {n : Nat} {ts : List (List Part)} (h : HallOk n ts) (ht : hasTab "wrong_telling" S = true) : Run (C__law_made [dD n ts]) S P ↔ P (hallD n ts) S := by
  refine run_is ?_
  unfold C__law_made m__law_made
  simp only [run_body, env0, List.map_cons, List.map_nil, List.length_cons, List.length_nil]
  simp [r_make h ht]
@[simp] theorem r_hcases {n : Nat} {ts : List (List Part)} : Run (fldOf "Hall" "cases" (hallD n ts)) S P ↔ P (.int n) S := run_eq rfl
@[simp] theorem r_htells {n : Nat} {ts : List (List Part)} : Run (fldOf "Hall" "tellings" (hallD n ts)) S P ↔ P (tsD ts) S := run_eq rfl
@[simp] theorem r_check_hall {n : Nat} {ts : List (List Part)} : Run (C_check_hall [hallD n ts]) S P ↔ P .non S := by
  refine run_is ?_
  unfold C_check_hall m_check_hall
  simp only [run_body, env0, List.map_cons, List.map_nil, List.length_cons, List.length_nil]
  have e : ∀ {PP : D → List O → Prop}, Run (isiC "Hall" (hallD n ts)) S PP ↔ PP (.bl true) S := run_eq rfl
  simp [e]
theorem idx_get {α : Type} {xs : List α} {i : Nat} {x : α} (h : xs[i]? = some x) : atI xs (i : Int) = some x := atI_nat h
theorem r_check_lot {n : Nat} {ts : List (List Part)} {l : List Int} (h : Lot n l) : Run (C_check_lot [hallD n ts, lotD l]) S P ↔ P .non S := by
  refine run_is ?_
  unfold C_check_lot m_check_lot C_is_lot m_is_lot
  simp only [run_body, env0, List.map_cons, List.map_nil, List.length_cons, List.length_nil]
  simp [env0, r_is_lot_of h]
theorem r_cases_of {n : Nat} {ts : List (List Part)} (hn : n ≤ 100) : Run (C_cases_of [hallD n ts]) S P ↔ P (lotD (rng n)) S := by
  refine run_is ?_
  unfold C_cases_of m_cases_of
  have hb := slb
  simp only [run_body, env0, List.map_cons, List.map_nil, List.length_cons, List.length_nil]
  simp [wipeE, rgD_rng]
  refine ⟨by omega, by simp [rng]; omega, lcX D.int (fun _ => true) D.int ?_ ?_⟩
  · intro x hx
    refine ⟨_, rfl, ?_, fun _ => ?_⟩
    · simp
    · simp
  · rw [List.filter_eq_self.mpr fun _ _ => rfl]
    simp
theorem r_persons_of {n : Nat} {ts : List (List Part)} (hn : ts.length ≤ 100) : Run (C_persons_of [hallD n ts]) S P ↔ P (lotD (rng ts.length)) S := by
  refine run_is ?_
  unfold C_persons_of m_persons_of
  have hb := slb
  simp only [run_body, env0, List.map_cons, List.map_nil, List.length_cons, List.length_nil]
  simp [wipeE, rgD_rng]
  refine ⟨by omega, by simp [rng]; omega, lcX D.int (fun _ => true) D.int ?_ ?_⟩
  · intro x hx
    refine ⟨_, rfl, ?_, fun _ => ?_⟩
    · simp
    · simp
  · rw [List.filter_eq_self.mpr fun _ _ => rfl]
    simp
end Lw

set_option Elab.async false
set_option linter.all false
set_option maxRecDepth 100000
set_option maxHeartbeats 4000000
/-! M52c: knowing, the module's and the law's. -/
namespace Lw
open PySem L2 Pm
variable {S : List O} {P : D → List O → Prop}
@[simp] theorem bor_cons {o : Option Slot} {r : SEnv} : bor (o :: r) = o.map Slot.toD :: bor r := rfl
@[simp] theorem str_cons {o : Option Slot} {r : SEnv} : str (o :: r) = (o.bind Slot.strict) :: str r := rfl
@[simp] theorem toD_val {d : D} : (Slot.val d).toD = d := rfl
@[simp] theorem toD_own {d : List D} : (Slot.own d).toD = .lst d := rfl
@[simp] theorem strict_val {d : D} : (Slot.val d).strict = some d := rfl
@[simp] theorem strict_own {d : List D} : (Slot.own d).strict = none := rfl
theorem flats_int : ∀ l : List Int, D.flats (l.map .int) = some (l.map V.int)
  | [] => rfl
  | x :: r => by simp [D.flats, D.flat, flats_int r]
theorem inV_int (c : Int) : ∀ l : List Int, inV (.int c) (l.map V.int) = decide (c ∈ l)
  | [] => rfl
  | x :: r => by
    have ih := inV_int c r
    unfold inV at ih ⊢
    rw [List.map_cons, List.any_cons, ih]
    have e : eqV (.int x) (.int c) = decide (c = x) := by
      show (x == c) = _
      by_cases h : c = x
      · simp [h]
      · simp [h, Ne.symm h]
    rw [e]
    simp
theorem r_inP {g : Bool → Bool} {c : Int} {y : D} {l : List Int} (h : y.items = some (l.map .int)) : Run (inP g (.int c) y) S P ↔ P (.bl (g (decide (c ∈ l)))) S := by
  refine run_eq ?_
  unfold inP
  rw [show (D.int c).flat = some (.int c) from rfl, h]
  simp only [Option.bind]
  rw [flats_int]
  show Pm.ret (D.bl (g (inV _ _))) S = _
  rw [inV_int]
  rfl
@[simp] theorem r_inT {c : Int} {l : List Int} : Run (inD (.int c) (lotD l)) S P ↔ P (.bl (decide (c ∈ l))) S := r_inP (g := id) rfl
@[simp] theorem r_inL {c : Int} {l : List Int} : Run (inD (.int c) (.lst (l.map .int))) S P ↔ P (.bl (decide (c ∈ l))) S := r_inP (g := id) rfl
@[simp] theorem r_ninL {c : Int} {l : List Int} : Run (notInD (.int c) (.lst (l.map .int))) S P ↔ P (.bl (!decide (c ∈ l))) S := r_inP (g := not) rfl
/-- the part in which c stands -/
def cell (t : List Part) (c : Int) : Part := (t.filter fun p => decide (c ∈ p.1)).headD ([], [])
theorem cell_some {n : Nat} {t : List Part} (h : TellOk n t) {c : Int} (hc : c ∈ rng n) : ∃ r, (t.filter fun p => decide (c ∈ p.1)) = cell t c :: r := by
  have : c ∈ t.flatMap (·.1) := (h.ev.mem_iff).mp hc
  obtain ⟨p, hp, hcp⟩ := List.mem_flatMap.mp this
  have hm : p ∈ t.filter fun p => decide (c ∈ p.1) := List.mem_filter.mpr ⟨hp, by simpa using hcp⟩
  unfold cell
  cases e : t.filter fun p => decide (c ∈ p.1) with
  | nil => rw [e] at hm; cases hm
  | cons q r => exact ⟨r, rfl⟩
theorem r_part_at {n i : Nat} {ts : List (List Part)} {t : List Part} (ht : ts[i]? = some t) (h : TellOk n t) {c : Int} (hc : c ∈ rng n) : Run (C_part_at [hallD n ts, .int i, .int c]) S P ↔ P (prD (cell t c)) S := by
  refine run_is ?_
  unfold C_part_at m_part_at
  have hb := slb
  have hl := h.ln
  have hx : atI (ts.map tlD) (i : Int) = some (tlD t) := idx_get (by rw [List.getElem?_map, ht]; rfl)
  simp only [run_body, env0, List.map_cons, List.map_nil, List.length_cons, List.length_nil]
  simp [wipeE, hx]
  refine ⟨by omega, lcX prD (fun p => decide (c ∈ p.1)) prD ?_ ?_⟩
  · rintro ⟨l, cs⟩ hp
    refine ⟨_, rfl, ?_, fun _ => ?_⟩
    · simp
      exact (Classical.em _).symm
    · simp
  · obtain ⟨r, e⟩ := cell_some h hc
    rw [e]
    simp
def seenL (t : List Part) (c : Int) : List Int := (cell t c).1
theorem r_seen_by {n i : Nat} {ts : List (List Part)} {t : List Part} (ht : ts[i]? = some t) (h : TellOk n t) {c : Int} (hc : c ∈ rng n) : Run (C_seen_by [hallD n ts, .int i, .int c]) S P ↔ P (lotD (seenL t c)) S := by
  refine run_is ?_
  unfold C_seen_by m_seen_by
  simp only [run_body, env0, List.map_cons, List.map_nil, List.length_cons, List.length_nil]
  simp [r_part_at ht h hc, seenL]
def sub (l m : List Int) : Bool := l.all fun x => decide (x ∈ m)
theorem r_is_within {l m : List Int} (hl : l.length ≤ 100) : Run (C_is_within [lotD l, lotD m]) S P ↔ P (.bl (sub l m)) S := by
  refine run_is ?_
  unfold C_is_within m_is_within
  have hb := slb
  simp only [run_body, env0, List.map_cons, List.map_nil, List.length_cons, List.length_nil]
  simp [wipeE]
  refine ⟨by omega, lcA D.int (fun x => decide (x ∈ m)) ?_ ?_⟩
  · intro x hx
    refine ⟨_, rfl, ?_, ?_⟩
    · simp
    · simp
  · rw [run_all]
    simp [sub, List.all_map]
theorem cell_ok {n : Nat} {t : List Part} (h : TellOk n t) {c : Int} (hc : c ∈ rng n) : cell t c ∈ t := by
  obtain ⟨r, e⟩ := cell_some h hc
  have hm : cell t c ∈ t.filter fun p => decide (c ∈ p.1) := by rw [e]; exact List.mem_cons_self
  exact (List.mem_filter.mp hm).1
theorem seen_len {n : Nat} {t : List Part} (h : TellOk n t) {c : Int} (hc : c ∈ rng n) : (seenL t c).length ≤ 100 := (h.pt _ (cell_ok h hc)).lot.2.2
/-- who knows -/
def kn (n : Nat) (t : List Part) (lot : List Int) : List Int := (rng n).filter fun c => sub (seenL t c) lot
theorem r_knows_by {n i : Nat} (hn : n ≤ 100) {ts : List (List Part)} {t : List Part} (ht : ts[i]? = some t) (h : TellOk n t) {lot : List Int} : Run (C_knows_by [hallD n ts, .int i, lotD lot]) S P ↔ P (lotD (kn n t lot)) S := by
  refine run_is ?_
  unfold C_knows_by m_knows_by
  have hb := slb
  simp only [run_body, env0, List.map_cons, List.map_nil, List.length_cons, List.length_nil]
  simp [wipeE, r_cases_of hn]
  refine ⟨by simp [rng]; omega, lcX D.int (fun c => sub (seenL t c) lot) D.int ?_ ?_⟩
  · intro c hc
    refine ⟨_, rfl, ?_, fun _ => ?_⟩
    · simp [r_seen_by ht h hc, r_is_within (seen_len h hc)]
    · simp
  · simp [kn]
@[simp] theorem run_appM {i : Nat} {me : Pm.Env → M D} {se : SEnv} {PF : Flo → List O → Prop} : Run (appM i me se) S PF ↔ Run (evS me se) S fun d S1 => ∃ ds, se[i]? = some (some (.own ds)) ∧ ds.length < sizeLine ∧ PF (.nx (se.set i (some (.own (ds ++ [d]))))) S1 := by
  unfold appM
  simp only [run_bnd]
  refine ⟨fun h => h.mono fun d S1 q => ?_, fun h => h.mono fun d S1 q => ?_⟩
  · split at q
    · rename_i ds e
      rw [run_ite] at q
      split at q
      · exact ⟨ds, e, by assumption, by simpa using q⟩
      · simp at q
    · simp at q
  · obtain ⟨ds, e, hl, p⟩ := q
    rw [e]
    simp only
    rw [if_pos hl]
    simpa using p
theorem rng_len (n : Nat) : (rng n).length = n := by simp [rng]
theorem rng_app {n : Nat} {d r : List Int} (h : rng n = d ++ r) : d.length ≤ n := by
  have := congrArg List.length h
  rw [rng_len, List.length_append] at this; omega
/-! the law's -/
end Lw

set_option Elab.async false
set_option linter.all false
set_option maxRecDepth 100000
set_option maxHeartbeats 4000000
/-! M52d: what all know, the module's and the law's. -/
namespace Lw
open PySem L2 Pm
variable {S : List O} {P : D → List O → Prop}
def ak (n : Nat) (ts : List (List Part)) (lot : List Int) : List Int := (rng n).filter fun c => ts.all fun t => decide (c ∈ kn n t lot)
def akN (n : Nat) (ts : List (List Part)) : Nat → List Int → List Int
  | 0, l => l
  | k + 1, l => akN n ts k (ak n ts l)
theorem rng_mem {n : Nat} {x : Int} (h : x ∈ rng n) : ∃ i : Nat, x = (i : Int) ∧ i < n := by
  unfold rng at h
  obtain ⟨i, hi, rfl⟩ := List.mem_map.mp h
  exact ⟨i, rfl, List.mem_range.mp hi⟩
theorem rng_map {α β : Type} (xs : List α) (d : α) (f : α → β) : (rng xs.length).map (fun x => f (xs.getD x.toNat d)) = xs.map f := by
  unfold rng
  rw [List.map_map]
  refine List.ext_getElem (by simp) fun i h1 h2 => ?_
  simp at h1 h2
  simp [h1]
theorem get_at {ts : List (List Part)} {i : Nat} (h : i < ts.length) : ts[i]? = some (ts.getD i []) := by
  rw [List.getD_eq_getElem?_getD, List.getElem?_eq_getElem h]; rfl
theorem all_told {n : Nat} {ts : List (List Part)} {lot : List Int} {c : Int} : ((ts.map fun t => kn n t lot).map fun l => decide (c ∈ l)).all id = ts.all fun t => decide (c ∈ kn n t lot) := by
  rw [List.map_map, List.all_map]; rfl
theorem pures_lots : ∀ ls : List (List Int), D.pures (ls.map lotD) = true := fun ls => pures_all fun d hd => by
  obtain ⟨l, _, rfl⟩ := List.mem_map.mp hd; exact pure_lot l
theorem r_all_know_once {n : Nat} {ts : List (List Part)} (hk : HallOk n ts) {lot : List Int} : Run (C_all_know_once [hallD n ts, lotD lot]) S P ↔ P (lotD (ak n ts lot)) S := by
  refine run_is ?_
  unfold C_all_know_once m_all_know_once
  have hb := slb
  have hn := hk.hi
  have ht := hk.t3
  simp only [run_body, env0, List.map_cons, List.map_nil, List.length_cons, List.length_nil]
  simp
  refine run_evL ?_
  simp [r_persons_of (show ts.length ≤ 100 by omega), wipeE]
  refine ⟨by rw [rng_len]; omega, lcX D.int (fun _ => true) (fun x => lotD (kn n (ts.getD x.toNat []) lot)) ?_ ?_⟩
  · intro x hx
    obtain ⟨i, rfl, hi⟩ := rng_mem hx
    have hg := get_at hi
    refine ⟨_, rfl, ?_, fun _ => ?_⟩
    · simp
    · simp [r_knows_by (show n ≤ 100 by omega) hg (hk.tl _ (List.mem_of_getElem? hg))]
  · rw [List.filter_eq_self.mpr fun _ _ => rfl, rng_map ts [] fun t => lotD (kn n t lot)]
    rw [show (ts.map fun t => lotD (kn n t lot)) = (ts.map fun t => kn n t lot).map lotD by rw [List.map_map]; rfl]
    refine ⟨pures_lots _, ?_⟩
    have hln : (ts.map fun t => kn n t lot).length ≤ 3 := by rw [List.length_map]; exact ht
    have hall : ∀ c : Int, ((ts.map fun t => kn n t lot).map fun l => decide (c ∈ l)).all id = ts.all fun t => decide (c ∈ kn n t lot) := fun c => all_told
    generalize (ts.map fun t => kn n t lot) = ls at hln hall
    simp [r_cases_of (show n ≤ 100 by omega), wipeE]
    refine ⟨by rw [rng_len]; omega, lcX D.int (fun c => ts.all fun t => decide (c ∈ kn n t lot)) D.int ?_ ?_⟩
    · intro c hc
      refine ⟨_, rfl, ?_, fun _ => ?_⟩
      · simp [wipeE]
        refine ⟨by omega, lcA lotD (fun l => decide (c ∈ l)) ?_ ?_⟩
        · intro l hl
          refine ⟨_, rfl, ?_, ?_⟩
          · simp
          · simp
        · rw [run_all, hall c]
          simp
          by_cases hq : ∀ x, x ∈ ts → c ∈ kn n x lot
          · exact .inr hq
          · exact .inl (by simpa using hq)
      · simp
    · simp [ak]
theorem akN_succ {n : Nat} {ts : List (List Part)} : ∀ (k : Nat) (l : List Int), akN n ts (k + 1) l = ak n ts (akN n ts k l)
  | 0, l => rfl
  | k + 1, l => by
    show akN n ts (k + 1) (ak n ts l) = ak n ts (akN n ts k (ak n ts l))
    exact akN_succ k _
end Lw

set_option Elab.async false
set_option linter.all false
set_option maxRecDepth 100000
set_option maxHeartbeats 4000000
/-! M52e: the law's draws. -/
namespace Lw
open PySem L2 Pm
variable {S : List O} {P : D → List O → Prop}
theorem r_ixR {l : Nat} {ds : List D} {i : Int} (h : S[l]? = some (.lst ds)) : Run (ixD (.ref l) (.int i)) S P ↔ ∃ d, atI ds i = some d ∧ P d S := by
  have e : ixD (.ref l) (.int i) S = lift (atI ds i) S := by
    show (match S[l]? with | some (.lst ds) => lift (atI ds i) S | _ => none) = _
    rw [h]
  unfold Pm.Run
  rw [e]
  exact run_lift
@[simp] theorem run_stoM {me mo mi : Pm.Env → M D} {se : SEnv} {PF : Flo → List O → Prop} : Run (stoM me mo mi se) S PF ↔ Run (evS me se) S fun v S1 => Run (mo (str se)) S1 fun o S2 => Run (mi (str se)) S2 fun i S3 => Run (sto3 o i v) S3 fun _ S4 => PF (.nx se) S4 := by
  unfold stoM; simp only [run_bnd, run_ret]
theorem run_stoN {j : Nat} {me mo mi : Pm.Env → M D} {se : SEnv} {PF : Flo → List O → Prop} (h : Run (evS me se) S fun v S1 => ∃ a b, v = .tpl [a, b] ∧ Run (mo (str se)) S1 fun o S2 => Run (mi (str se)) S2 fun i S3 => Run (sto3 o i a) S3 fun _ S4 => PF (.nx (se.set j (some (.val b)))) S4) : Run (stoN j me mo mi se) S PF := by
  unfold stoN
  simp only [run_bnd]
  refine h.mono fun v S1 q => ?_
  obtain ⟨a, b, rfl, q⟩ := q
  simp only [run_bnd, run_ret]
  exact q
theorem r_sto3 {l : Nat} {ds : List D} {k : Int} {j : Nat} {v : D} {PU : Unit → List O → Prop} (h : S[l]? = some (.lst ds)) (hj : ixN ds.length k = some j) (hv : v.pure = true) : Run (sto3 (.ref l) (.int k) v) S PU ↔ PU () (S.set l (.lst (ds.set j v))) := by
  refine run_eq ?_
  unfold sto3 stoL
  simp only [h, hj]
  rw [if_pos hv]
  rfl
@[simp] theorem run_divmod {i j : Int} : Run (divmodD [.int i, .int j]) S P ↔ CDiv i j ∧ P (.tpl [.int (i / j), .int (i % j)]) S := by
  unfold divmodD; simp only [run_ite, run_ret, run_stuck]; simp
structure PoolOk (l : Nat) (S : List O) : Prop where
  tab : hasTab "wrong_telling" S = true
  pool : ∃ a b c : Int, S[l]? = some (.lst [.int a, .int b, .int c])
theorem hasTab_set {x : Str} {S : List O} {l : Nat} {ds es : List D} (h : hasTab x S = true) (hl : S[l]? = some (.lst ds)) : hasTab x (S.set l (.lst es)) = true := by
  obtain ⟨i, hi⟩ := hasTab_at h
  have hne : l ≠ i := fun e => by rw [e, hi] at hl; cases hl
  unfold hasTab
  refine List.any_eq_true.mpr ⟨.tab x, ?_, by simp⟩
  refine List.mem_iff_getElem?.mpr ⟨i, ?_⟩
  rw [List.getElem?_set_ne hne]; exact hi
theorem PoolOk.set {l : Nat} {S : List O} (h : PoolOk l S) (a b c : Int) : PoolOk l (S.set l (.lst [.int a, .int b, .int c])) := by
  obtain ⟨ht, a0, b0, c0, hp⟩ := h
  refine ⟨hasTab_set ht hp, a, b, c, ?_⟩
  rw [List.getElem?_set_self (List.getElem?_eq_some_iff.mp hp).1]
theorem get_set {S : List O} {l : Nat} {ds es : List D} (hp : S[l]? = some (.lst ds)) : (S.set l (.lst es))[l]? = some (.lst es) := List.getElem?_set_self (List.getElem?_eq_some_iff.mp hp).1
theorem ix3 : ixN 3 0 = some 0 ∧ ixN 3 1 = some 1 ∧ ixN 3 2 = some 2 := by decide
theorem r_take {l : Nat} {m : Int} (h : PoolOk l S) (hm : 0 < m) (hm2 : m < 2 ^ 30) (k : ∀ (i : Int) (S' : List O), 0 ≤ i → i < m → PoolOk l S' → P (.int i) S') : Run (C__law_take [.ref l, .int m]) S P := by
  have hpo := h
  obtain ⟨ht, a, b, c, hp⟩ := h
  unfold C__law_take m__law_take
  simp only [run_body, env0, List.map_cons, List.map_nil, List.length_cons, List.length_nil]
  by_cases ha : 0 < a
  · simp [r_ixR hp, ha]
    refine run_stoN ?_
    rw [run_evS_same rfl]
    simp [r_ixR hp]
    refine ⟨⟨hm, by omega⟩, _, _, ⟨rfl, rfl⟩, ?_⟩
    rw [r_sto3 hp ix3.1 rfl]
    simp
    exact k _ _ (Int.emod_nonneg _ (by omega)) (Int.emod_lt_of_pos _ hm) (hpo.set _ _ _)
  · simp [r_ixR hp, ha]
    rw [run_evS_same rfl]
    simp [r_ixR hp]
    rw [r_sto3 hp ix3.2.2 rfl]
    have hp1 := get_set (es := [.int a, .int b, .int (c + 1)]) hp
    have c1 : CMul 28657 (c + 1) := .inl ⟨by omega, by omega⟩
    have c3 : CMul 17 (c + 1) := .inl ⟨by omega, by omega⟩
    have hst : 0 ≤ (b + 28657 * (c + 1)) % 2147483399 ∧ (b + 28657 * (c + 1)) % 2147483399 < 2147483399 := ⟨Int.emod_nonneg _ (by omega), Int.emod_lt_of_pos _ (by omega)⟩
    have c2 : CMul ((b + 28657 * (c + 1)) % 2147483399) ((b + 28657 * (c + 1)) % 2147483399 % 5003 + 48271) := .inl ⟨by omega, by omega⟩
    have cd : ∀ x : Int, CDivW x 613 := fun x => ⟨by omega, by decide⟩
    simp
    rw [run_evS_same rfl]
    simp [r_ixR hp1, c1]
    rw [run_evS_same rfl]
    simp [r_ixR hp1, c2, c3]
    rw [r_sto3 hp1 ix3.2.1 rfl]
    have hp2 := get_set (es := [.int a, .int (((b + 28657 * (c + 1)) % 2147483399 * ((b + 28657 * (c + 1)) % 2147483399 % 5003 + 48271) + 17 * (c + 1)) % 2147483399), .int (c + 1)]) hp1
    simp [List.set_set] at hp2
    simp [r_ixR hp2, cd, hm, List.set_set]
    exact k _ _ (Int.emod_nonneg _ (by omega)) (Int.emod_lt_of_pos _ hm) (hpo.set _ _ _)
end Lw

set_option Elab.async false
set_option linter.all false
set_option maxRecDepth 100000
set_option maxHeartbeats 4000000
/-! M52f: fractions and partitions that the law draws. -/
namespace Lw
open PySem L2 Pm
variable {S : List O} {P : D → List O → Prop}
theorem r_of {l : Nat} {ns : List Int} (h : PoolOk l S) (h1 : ns ≠ []) (h2 : ns.length ≤ 100) (k : ∀ (i : Int) (S' : List O), i ∈ ns → PoolOk l S' → P (.int i) S') : Run (C__law_of [.ref l, .lst (ns.map .int)]) S P := by
  unfold C__law_of m__law_of
  simp only [run_body, env0, List.map_cons, List.map_nil, List.length_cons, List.length_nil]
  simp
  have hl : 0 < ns.length := List.length_pos_iff.mpr h1
  refine r_take h (by omega) (by omega) fun i S' h0 hi hp => ?_
  obtain ⟨j, rfl⟩ := Int.eq_ofNat_of_zero_le h0
  have hj : j < ns.length := by omega
  have e : atI (ns.map D.int) (j : Int) = some (.int ns[j]) := idx_get (by rw [List.getElem?_map, List.getElem?_eq_getElem hj]; rfl)
  simp [e]
  exact k _ _ (List.getElem_mem hj) hp
/-- a while by a measure -/
theorem run_whM {c : Pm.Env → M Bool} {b : MS} {PF : Flo → List O → Prop} (J : Nat → SEnv → List O → Prop) (st : ∀ k e S, J k e S → Run (c (bor e)) S fun t S1 => if t = true then Run (b e) S1 fun fl S2 => ∃ k2 e2, fl = .nx e2 ∧ k2 < k ∧ J k2 e2 S2 else PF (.nx e) S1) : ∀ (k : Nat) (e : SEnv) (S : List O), J k e S → Run (whM c b e) S PF := by
  have key : ∀ (k : Nat) (e : SEnv) (S : List O), J k e S → ∃ n r S', whN c b n e S = some (r, S') ∧ PF r S' := by
    intro k
    induction k using Nat.strongRecOn with
    | ind k ih =>
      intro e S hJ
      obtain ⟨t, S1, h1, h2⟩ := st k e S hJ
      cases t with
      | false =>
        simp only [Bool.false_eq_true, if_false] at h2
        exact ⟨1, _, S1, by unfold whN; rw [bnd_of h1]; rfl, h2⟩
      | true =>
        simp only [if_true] at h2
        obtain ⟨fl, S2, h3, k2, e2, rfl, hk, hJ2⟩ := h2
        obtain ⟨n, r, S', h4, h5⟩ := ih k2 hk e2 S2 hJ2
        exact ⟨n + 1, r, S', by unfold whN; rw [bnd_of h1, if_pos rfl, bnd_of h3]; exact h4, h5⟩
  intro k e S hJ
  obtain ⟨n, r, S', h1, h2⟩ := key k e S hJ
  exact ⟨r, S', whM_of h1, h2⟩
theorem r_law_lowest {w T : Nat} (hT : 0 < T) (hT2 : T < 2 ^ 14) : Run (C__law_lowest [.int w, .int T]) S P ↔ P (frD (low w T)) S := by
  refine run_is ?_
  unfold C__law_lowest m__law_lowest
  simp only [run_body, env0, List.map_cons, List.map_nil, List.length_cons, List.length_nil]
  simp
  rw [run_evS_same rfl]
  simp
  rw [run_evS_same rfl]
  simp [setL]
  refine run_whM (fun k e S1 => S1 = S ∧ ∃ x y : Nat, e = [some (.val (.int w)), some (.val (.int T)), some (.val (.int x)), some (.val (.int y))] ∧ Nat.gcd x y = Nat.gcd w T ∧ k = y) ?_ T _ S ⟨rfl, w, T, rfl, rfl, rfl⟩
  rintro k e S1 ⟨rfl, x, y, rfl, hg, rfl⟩
  by_cases hy : 0 < k
  · simp [hy]
    rw [run_evS_same rfl]
    simp
    rw [run_evS_same rfl]
    simp [hy, setL]
    refine ⟨x % k, Nat.mod_lt _ hy, k, ⟨rfl, by simp⟩, ?_⟩
    rw [← hg, Nat.gcd_comm x k, Nat.gcd_rec k x, Nat.gcd_comm]
  · have h0 : k = 0 := by omega
    subst h0
    rw [Nat.gcd_zero_right] at hg
    subst hg
    have hp : 0 < Nat.gcd w T := Nat.gcd_pos_of_pos_right _ hT
    have hle : Nat.gcd w T ≤ T := Nat.gcd_le_right _ hT
    have hd : ∀ i : Int, CDivW i ((Nat.gcd w T : Nat) : Int) := fun i => ⟨by omega, by
      rw [Int.natAbs_natCast]; exact small_log (by omega)⟩
    simp [hd, low]
/-! ### partitions -/
/-- the drawn labels -/
def labAt (lab : List Int) (c : Int) : Int := lab.getD c.toNat 0
def clsOf (n : Nat) (lab : List Int) (c : Int) : List Int := (rng n).filter fun e => decide (labAt lab e = labAt lab c)
def isNew (lab : List Int) (c : Int) : Bool := !decide (labAt lab c ∈ lab.take c.toNat)
def clss (n : Nat) (lab : List Int) : List (List Int) := ((rng n).filter (isNew lab)).map (clsOf n lab)
theorem rng_bd {n : Nat} {x : Int} (h : x ∈ rng n) : 0 ≤ x ∧ x < n := by
  obtain ⟨i, rfl, hi⟩ := rng_mem h
  omega
theorem mem_rng {n : Nat} {x : Int} (h0 : 0 ≤ x) (h1 : x < n) : x ∈ rng n := by
  unfold rng
  refine List.mem_map.mpr ⟨x.toNat, List.mem_range.mpr (by omega), by omega⟩
theorem lot_filter {n : Nat} (hn : n ≤ 100) (f : Int → Bool) : Lot n ((rng n).filter f) := by
  refine ⟨fun x hx => rng_bd (List.mem_filter.mp hx).1, (rng_sorted n).filter f, Nat.le_trans (List.length_filter_le _ _) (by rw [rng_len]; exact hn)⟩
theorem new_lt {n : Nat} {lab : List Int} (hl : lab.length = n) {c e : Int} (hc : c ∈ rng n) (he : e ∈ rng n) (hn : isNew lab c = true) (h : labAt lab e = labAt lab c) : c ≤ e := by
  have b1 := rng_bd hc
  have b2 := rng_bd he
  refine Int.not_lt.mp fun hlt => ?_
  unfold isNew at hn
  simp only [Bool.not_eq_true', decide_eq_false_iff_not] at hn
  refine hn ?_
  rw [← h]
  unfold labAt
  have hi : e.toNat < lab.length := by omega
  rw [List.getD_eq_getElem?_getD, List.getElem?_eq_getElem hi]
  show lab[e.toNat] ∈ lab.take c.toNat
  refine List.mem_iff_getElem?.mpr ⟨e.toNat, ?_⟩
  rw [List.getElem?_take_of_lt (by omega), List.getElem?_eq_getElem hi]
structure PartsOk (n : Nat) (ls : List (List Int)) : Prop where
  lot : ∀ l ∈ ls, Lot n l ∧ l ≠ []
  fs : (ls.map fun l => l.headD 0).Pairwise (· ≤ ·)
  ev : (rng n).Perm ls.flatten
  ln : ls.length ≤ n
theorem cls_head {n : Nat} {lab : List Int} (hl : lab.length = n) {c : Int} (hc : c ∈ rng n) (hn : isNew lab c = true) : (clsOf n lab c).headD 0 = c := by
  have hm : c ∈ clsOf n lab c := List.mem_filter.mpr ⟨hc, by simp⟩
  have hp : (clsOf n lab c).Pairwise (· < ·) := (rng_sorted n).filter _
  cases e : clsOf n lab c with
  | nil => rw [e] at hm; cases hm
  | cons x r =>
    show x = c
    have hx : x ∈ clsOf n lab c := by rw [e]; exact List.mem_cons_self
    have hx2 := List.mem_filter.mp hx
    have h1 := new_lt hl hc hx2.1 hn (by simpa using hx2.2)
    rw [e] at hm hp
    rcases List.mem_cons.mp hm with h | h
    · exact h.symm
    · have := (List.pairwise_cons.mp hp).1 c h
      omega
theorem clss_ok {n : Nat} (hn : n ≤ 100) {lab : List Int} (hl : lab.length = n) : PartsOk n (clss n lab) := by
  refine ⟨fun l h => ?_, ?_, ?_, ?_⟩
  · obtain ⟨c, hc, rfl⟩ := List.mem_map.mp h
    have hm := List.mem_filter.mp hc
    refine ⟨lot_filter hn _, fun e => ?_⟩
    have : c ∈ clsOf n lab c := List.mem_filter.mpr ⟨hm.1, by simp⟩
    rw [e] at this; cases this
  · have e : ((clss n lab).map fun l => l.headD 0) = (rng n).filter (isNew lab) := by
      unfold clss
      rw [List.map_map]
      refine (List.map_congr_left fun c hc => ?_).trans (List.map_id _)
      have hm := List.mem_filter.mp hc
      exact cls_head hl hm.1 hm.2
    rw [e]
    exact ((rng_sorted n).filter _).imp fun h => by omega
  · have nd1 : (rng n).Nodup := (rng_sorted n).imp fun h => by omega
    have nd2 : (clss n lab).flatten.Nodup := by
      refine List.pairwise_flatten.mpr ⟨fun l h => ?_, ?_⟩
      · obtain ⟨c, hc, rfl⟩ := List.mem_map.mp h
        exact ((rng_sorted n).filter _).imp fun h => by omega
      · unfold clss
        rw [List.pairwise_map]
        have hp := (rng_sorted n).filter (isNew lab)
        refine List.Pairwise.imp_of_mem (fun {a b} ha hb hab => ?_) hp
        intro x hx y hy hxy
        subst hxy
        have m1 := List.mem_filter.mp ha
        have m2 := List.mem_filter.mp hb
        have e1 : labAt lab x = labAt lab a := by simpa using (List.mem_filter.mp hx).2
        have e2 : labAt lab x = labAt lab b := by simpa using (List.mem_filter.mp hy).2
        have := new_lt hl m2.1 m1.1 m2.2 (e1.symm.trans e2)
        omega
    refine (List.perm_ext_iff_of_nodup nd1 nd2).mpr fun a => ⟨fun ha => ?_, fun ha => ?_⟩
    · -- the first one with a's label
      have hex : ∀ (k : Nat) (c : Int), c.toNat = k → c ∈ rng n → labAt lab c = labAt lab a → ∃ c2, c2 ∈ rng n ∧ isNew lab c2 = true ∧ labAt lab c2 = labAt lab a := by
        intro k
        induction k using Nat.strongRecOn with
        | ind k ih =>
          intro c hk hc he
          by_cases hnw : isNew lab c = true
          · exact ⟨c, hc, hnw, he⟩
          · unfold isNew at hnw
            simp only [Bool.not_eq_true', Bool.not_eq_false, decide_eq_true_eq, decide_eq_false_iff_not, Classical.not_not] at hnw
            obtain ⟨j, hj⟩ := List.mem_iff_getElem?.mp hnw
            have hjl := (List.getElem?_eq_some_iff.mp hj).1
            rw [List.length_take] at hjl
            have bc := rng_bd hc
            rw [List.getElem?_take_of_lt (by omega)] at hj
            have e1 : labAt lab (j : Int) = labAt lab c := by
              unfold labAt
              rw [List.getD_eq_getElem?_getD, Int.toNat_natCast, hj]; rfl
            exact ih j (by omega) (j : Int) (by omega) (mem_rng (by omega) (by omega)) (e1.trans he)
      obtain ⟨c2, h1, h2, h3⟩ := hex a.toNat a rfl ha rfl
      exact List.mem_flatten.mpr ⟨_, List.mem_map.mpr ⟨c2, List.mem_filter.mpr ⟨h1, h2⟩, rfl⟩, List.mem_filter.mpr ⟨ha, by simp [h3]⟩⟩
    · obtain ⟨l, h1, h2⟩ := List.mem_flatten.mp ha
      obtain ⟨c, _, rfl⟩ := List.mem_map.mp h1
      exact (List.mem_filter.mp h2).1
  · unfold clss
    rw [List.length_map]
    exact Nat.le_trans (List.length_filter_le _ _) (by rw [rng_len]; exact Nat.le_refl _)
end Lw

set_option Elab.async false
set_option linter.all false
set_option maxRecDepth 100000
set_option maxHeartbeats 4000000
/-! M52g: drawn partitions, drawn lots. -/
namespace Lw
open PySem L2 Pm
variable {S : List O} {P : D → List O → Prop}
theorem run_lc0 {set : SetF} {mt : Pm.Env → M Bool} {me : Pm.Env → M D} {w : Pm.Env} {PL : List D → List O → Prop} (J : List D → List D → List O → Prop) (ds : List D) {S : List O} (h : J ds [] S)
    (st : ∀ d r ac S, J (d :: r) ac S → ∃ e, set d w = some e ∧ Run (mt e) S fun k S1 => if k = true then Run (me e) S1 fun y S2 => J r (ac ++ [y]) S2 else J r ac S1)
    (fin : ∀ ac S, J [] ac S → PL ac S) : Run (lcLoop set mt me w ds) S PL := (run_lc J ds [] h st fin).mono fun ys S1 q => by rw [List.nil_append] at q; exact q
theorem rng_app_len {n : Nat} {d r : List Int} {c : Int} (h : rng n = d ++ c :: r) : c = (d.length : Int) ∧ d.length < n := by
  have h1 : (rng n)[d.length]? = some c := by rw [h]; simp
  unfold rng at h1
  rw [List.getElem?_map] at h1
  by_cases hd : d.length < n
  · rw [List.getElem?_range hd] at h1
    exact ⟨by simpa using h1.symm, hd⟩
  · rw [List.getElem?_eq_none (by simpa using hd)] at h1
    cases h1
theorem r_law_parts {l n : Nat} (h : PoolOk l S) (hn2 : 2 ≤ n) (hn : n ≤ 6) (k : ∀ (ls : List (List Int)) (S' : List O), PartsOk n ls → PoolOk l S' → P (.lst (ls.map lotD)) S') : Run (C__law_parts [.ref l, .int n]) S P := by
  unfold C__law_parts m__law_parts
  have hb := slb
  simp only [run_body, env0, List.map_cons, List.map_nil, List.length_cons, List.length_nil]
  simp
  refine run_evL ?_
  simp [rgD_rng, wipeE]
  refine ⟨by omega, by rw [rng_len]; omega, run_lc0 (fun rest ac S1 => ∃ lab : List Int, ac = lab.map .int ∧ rest.length + lab.length = n ∧ PoolOk l S1) ((rng n).map .int) ⟨[], rfl, by rw [List.length_map, rng_len]; rfl, h⟩ ?_ ?_⟩
  · rintro d r ac S1 ⟨lab, rfl, hlen, hp⟩
    refine ⟨_, rfl, ?_⟩
    simp
    refine r_of (ns := [1, 2, 3, (n : Int)]) hp (by simp) (by simp) fun i S2 hi hp2 => ?_
    have hi2 : 0 < i ∧ i < 2 ^ 30 := by
      simp at hi
      omega
    refine r_take hp2 hi2.1 hi2.2 fun j S3 _ _ hp3 => ?_
    rw [List.length_cons] at hlen
    exact ⟨lab ++ [j], by simp, by rw [List.length_append]; simp; omega, hp3⟩
  · rintro ac S1 ⟨lab, rfl, hlen, hp⟩
    rw [List.length_nil, Nat.zero_add] at hlen
    refine ⟨pures_int lab, ?_⟩
    refine run_evL ?_
    simp [D.pures, rgD_rng]
    refine ⟨by omega, run_forL (fun rest e S2 => S2 = S1 ∧ ∃ (dn r : List Int) (o4 o5 : Option Slot), rest = r.map .int ∧ rng n = dn ++ r ∧ e = [some (.val (.ref l)), some (.val (.int n)), some (.own (lab.map .int)), some (.own (((dn.filter (isNew lab)).map (clsOf n lab)).map lotD)), o4, o5]) _ ⟨rfl, [], rng n, none, none, rfl, rfl, rfl⟩ ?_ ?_⟩
    · rintro d r e S2 ⟨rfl, dn, r2, o4, o5, hr, hd, rfl⟩
      cases r2 with
      | nil => cases hr
      | cons c r2 =>
        rw [List.map_cons] at hr
        injection hr with h1 h2
        subst h1 h2
        refine ⟨_, rfl, ?_⟩
        obtain ⟨hce, hdn⟩ := rng_app_len hd
        have hat : ∀ j : Nat, j < n → atI (lab.map D.int) (j : Int) = some (.int (labAt lab j)) := fun j hj => idx_get (by
          rw [List.getElem?_map, List.getElem?_eq_getElem (by omega)]
          unfold labAt
          rw [Int.toNat_natCast, List.getD_eq_getElem?_getD, List.getElem?_eq_getElem (by omega)]; rfl)
        have hatc := hat dn.length hdn
        rw [← hce] at hatc
        have hcut : cutG (lab.map D.int) none (some c) = (lab.take c.toNat).map .int := by
          rw [hce, cut_take _ _ (by rw [List.length_map]; omega), Int.toNat_natCast, List.map_take]
        simp [setNS, hatc, hcut]
        rw [← List.map_take, r_ninL]
        have hnw : (!decide (labAt lab c ∈ lab.take c.toNat)) = isNew lab c := rfl
        by_cases hm : labAt lab c ∈ lab.take c.toNat
        · have hf : isNew lab c = false := by rw [← hnw]; simp [hm]
          simp [hm]
          exact ⟨dn ++ [c], r2, rfl, by rw [hd]; simp, by simp [hf]⟩
        · have hf : isNew lab c = true := by rw [← hnw]; simp [hm]
          simp [hm]
          refine run_evS ?_
          simp [rgD_rng, wipeE]
          refine ⟨by omega, by rw [rng_len]; omega, lcX D.int (fun e => decide (labAt lab e = labAt lab c)) D.int ?_ ?_⟩
          · intro x hx
            obtain ⟨i, rfl, hi⟩ := rng_mem hx
            refine ⟨_, rfl, ?_, fun _ => ?_⟩
            · simp [hat i hi, hatc]
              exact (Classical.em _).symm
            · simp
          · have hfl : (dn.filter (isNew lab)).length ≤ dn.length := List.length_filter_le _ _
            refine ⟨pure_lot _, ?_⟩
            simp
            exact ⟨by omega, dn ++ [c], r2, rfl, by rw [hd]; simp, by simp [hf, clsOf]⟩
    · rintro e S2 ⟨rfl, dn, r2, o4, o5, hr, hd, rfl⟩
      cases r2 with
      | cons c r2 => cases hr
      | nil =>
        rw [List.append_nil] at hd
        simp
        have := k (clss n lab) S2 (clss_ok (by omega) hlen) hp
        rw [← List.map_map] 
        rw [clss, hd] at this
        exact this
theorem r_law_lot {l n : Nat} (h : PoolOk l S) (hn : n ≤ 6) (k : ∀ (lot : List Int) (S' : List O), lot.Sublist (rng n) → PoolOk l S' → P (lotD lot) S') : Run (C__law_lot [.ref l, .int n]) S P := by
  unfold C__law_lot m__law_lot
  have hb := slb
  simp only [run_body, env0, List.map_cons, List.map_nil, List.length_cons, List.length_nil]
  simp [rgD_rng, wipeE]
  refine ⟨by omega, by rw [rng_len]; omega, run_lc0 (fun rest ac S1 => ∃ (dn lot r : List Int), rest = r.map .int ∧ rng n = dn ++ r ∧ ac = lot.map .int ∧ lot.Sublist dn ∧ PoolOk l S1) ((rng n).map .int) ⟨[], [], rng n, rfl, rfl, rfl, List.Sublist.refl _, h⟩ ?_ ?_⟩
  · rintro d r ac S1 ⟨dn, lot, r2, hr, hd, rfl, hs, hp⟩
    cases r2 with
    | nil => cases hr
    | cons c r2 =>
      rw [List.map_cons] at hr
      injection hr with h1 h2
      subst h1 h2
      refine ⟨_, rfl, ?_⟩
      simp
      refine r_take hp (by omega) (by omega) fun i S2 _ _ hp2 => ?_
      by_cases hi : 0 < i
      · simp [hi]
        exact ⟨dn ++ [c], lot ++ [c], r2, rfl, by rw [hd]; simp, by simp, hs.append_right _, hp2⟩
      · simp [hi]
        exact ⟨dn ++ [c], lot, r2, rfl, by rw [hd]; simp, rfl, hs.trans (List.sublist_append_left _ _), hp2⟩
  · rintro ac S1 ⟨dn, lot, r2, hr, hd, rfl, hs, hp⟩
    cases r2 with
    | cons c r2 => cases hr
    | nil =>
      rw [List.append_nil] at hd
      rw [← hd] at hs
      exact k lot S1 hs hp
end Lw

set_option Elab.async false
set_option linter.all false
set_option maxRecDepth 100000
set_option maxHeartbeats 4000000
/-! M52h: drawn halls. -/
namespace Lw
open PySem L2 Pm
variable {S : List O} {P : D → List O → Prop}
def wD (ws : List Nat) : List D := ws.map fun w : Nat => .int w
theorem ints_wD : ∀ ws : List Nat, D.ints (wD ws) = some (ws.map fun w : Nat => (w : Int))
  | [] => rfl
  | w :: r => by
    have := ints_wD r
    unfold wD at this
    simp [wD, D.ints, this]
theorem sum_cast : ∀ ws : List Nat, (ws.map fun w : Nat => (w : Int)).sum = ((ws.sum : Nat) : Int)
  | [] => rfl
  | w :: r => by rw [List.map_cons, List.sum_cons, List.sum_cons, sum_cast r]; simp
@[simp] theorem r_sumN {ws : List Nat} : Run (sumD [.lst (wD ws)]) S P ↔ P (.int (ws.sum : Nat)) S := by
  refine run_eq ?_
  simp [sumD, listInts, ints_wD, Pm.ret, sum_cast]
theorem pures_wD (ws : List Nat) : D.pures (wD ws) = true := pures_all fun d hd => by
  obtain ⟨w, _, rfl⟩ := List.mem_map.mp hd; rfl
def Sml (ws : List Nat) : Prop := ∀ w ∈ ws, 1 ≤ w ∧ w ≤ 5
theorem sml_sum : ∀ {ws : List Nat}, Sml ws → ws.sum ≤ 5 * ws.length
  | [], _ => by simp
  | w :: r, h => by
    have h1 := h w List.mem_cons_self
    have h2 := sml_sum (ws := r) fun x hx => h x (List.mem_cons_of_mem _ hx)
    rw [List.sum_cons, List.length_cons]; omega
theorem sml_wts {ws : List Nat} (h : Sml ws) (hn : ws ≠ []) (hl : ws.length ≤ 100) : Wts ws :=
  ⟨fun w hw => (h w hw).1, hn, by have := sml_sum h; omega, hl⟩
/-- 1 + a draw of five, so many times -/
theorem r_ws {l : Nat} {me : Pm.Env → M D} {set : SetF} {w : Pm.Env} {PL : List D → List O → Prop} (ds : List D) (h : PoolOk l S) (hset : ∀ d ∈ ds, ∃ e, set d w = some e ∧ ∀ (S1 : List O) (Q : D → List O → Prop), PoolOk l S1 → (∀ (x : Nat) (S2 : List O), 1 ≤ x → x ≤ 5 → PoolOk l S2 → Q (.int x) S2) → Run (me e) S1 Q)
    (k : ∀ (ws : List Nat) (S' : List O), Sml ws → ws.length = ds.length → PoolOk l S' → PL (wD ws) S') : Run (lcLoop set yesM me w ds) S PL := by
  refine run_lc0 (fun rest ac S1 => (∀ d ∈ rest, d ∈ ds) ∧ ∃ ws : List Nat, ac = wD ws ∧ Sml ws ∧ rest.length + ws.length = ds.length ∧ PoolOk l S1) ds ⟨fun d h => h, [], rfl, (by intro w hw; cases hw), by simp, h⟩ ?_ ?_
  · rintro d r ac S1 ⟨hm, ws, rfl, hs, hl, hp⟩
    obtain ⟨e, h1, h2⟩ := hset d (hm d List.mem_cons_self)
    refine ⟨e, h1, ?_⟩
    simp
    refine h2 S1 _ hp fun x S2 hx hx5 hp2 => ⟨fun y hy => hm y (List.mem_cons_of_mem _ hy), ws ++ [x], by simp [wD], ?_, by rw [List.length_cons] at hl; rw [List.length_append]; simp; omega, hp2⟩
    intro y hy
    rcases List.mem_append.mp hy with h | h
    · exact hs y h
    · simp at h; subst h; exact ⟨hx, hx5⟩
  · rintro ac S1 ⟨_, ws, rfl, hs, hl, hp⟩
    rw [List.length_nil, Nat.zero_add] at hl
    exact k ws S1 hs hl hp
theorem r_1take {l : Nat} {i : Nat} {env : Pm.Env} (hi : env[i]?.join = some (.ref l)) (h : PoolOk l S) (k : ∀ (x : Nat) (S2 : List O), 1 ≤ x → x ≤ 5 → PoolOk l S2 → P (.int x) S2) : Run (Pm.bin addD (cM (.int 1)) (callF 2 C__law_take (consA (getv i) (consA (cM (.int 5)) nilM))) env) S P := by
  simp [hi]
  refine r_take h (by omega) (by omega) fun j S' h0 h1 hp => ?_
  obtain ⟨m, rfl⟩ := Int.eq_ofNat_of_zero_le h0
  have e : (1 + (m : Int)) = ((1 + m : Nat) : Int) := by omega
  simp
  rw [e]
  exact k (1 + m) S' (by omega) (by omega) hp
theorem tell_of {n : Nat} {ls : List (List Int)} (h : PartsOk n ls) (hn : n ≤ 100) {t : List Part} (h1 : t.map (·.1) = ls) (h2 : ∀ p ∈ t, PartOk n p) : TellOk n t := by
  refine ⟨?_, h2, ?_, ?_⟩
  · have := congrArg List.length h1
    rw [List.length_map] at this
    have := h.ln
    omega
  · have e : (t.map fun p => p.1.headD 0) = ls.map fun l => l.headD 0 := by rw [← h1, List.map_map]; rfl
    rw [e]; exact h.fs
  · have e : t.flatMap (·.1) = ls.flatten := by rw [← h1, List.flatMap_def]
    rw [e]; exact h.ev
theorem lot_ws {n : Nat} {ws : List Nat} (hw : Sml ws) (hl : ws.length = n) {lot : List Int} (h : Lot n lot) : Sml (lot.map fun c => ws.getD c.toNat 0) := by
  intro x hx
  obtain ⟨c, hc, rfl⟩ := List.mem_map.mp hx
  have := h.1 c hc
  have hi : c.toNat < ws.length := by omega
  rw [List.getD_eq_getElem?_getD, List.getElem?_eq_getElem hi]
  exact hw _ (List.getElem_mem hi)
theorem r_law_hall {l : Nat} {most odd : Int} (h : PoolOk l S) (h1 : 3 ≤ most) (h2 : most ≤ 6) (k : ∀ (n : Nat) (ts : List (List Part)) (S' : List O), HallOk n ts → PoolOk l S' → P (dD n ts) S') : Run (C__law_hall [.ref l, .int most, .int odd]) S P := by
  unfold C__law_hall m__law_hall
  have hb := slb
  simp only [run_body, env0, List.map_cons, List.map_nil, List.length_cons, List.length_nil]
  simp
  rw [run_evS_same rfl]
  simp
  refine r_take h (by omega) (by omega) fun i S1 h0 hi hp1 => ?_
  obtain ⟨m, rfl⟩ := Int.eq_ofNat_of_zero_le h0
  simp
  have en : (2 + (m : Int)) = ((2 + m : Nat) : Int) := by omega
  rw [en]
  have hn2 : 2 ≤ 2 + m := by omega
  have hn : 2 + m ≤ 6 := by omega
  generalize 2 + m = n at hn2 hn
  refine run_evL ?_
  simp [rgD_rng, wipeE]
  refine ⟨by omega, by rw [rng_len]; omega, r_ws (l := l) _ hp1 (fun d hd => ⟨_, rfl, fun S2 Q hp2 kk => r_1take rfl hp2 kk⟩) fun ws S2 hw hwl hp2 => ?_⟩
  rw [List.length_map, rng_len] at hwl
  refine ⟨pures_wD ws, ?_⟩
  refine run_evL ?_
  simp [D.pures, setL]
  refine r_take hp2 (by omega) (by omega) fun i S3 h0 hi hp3 => ?_
  obtain ⟨m2, rfl⟩ := Int.eq_ofNat_of_zero_le h0
  have en2 : (1 + (m2 : Int)) = ((1 + m2 : Nat) : Int) := by omega
  simp
  rw [en2]
  simp only [run_rg1, Int.toNat_natCast, rgD_rng]
  have hq1 : 1 ≤ 1 + m2 := by omega
  have hq3 : 1 + m2 ≤ 3 := by omega
  generalize 1 + m2 = q at hq1 hq3
  refine ⟨by omega, run_forL (fun rest e S4 => ∃ (ts : List (List Part)) (o6 o7 o8 o9 o10 o11 : Option Slot), rest.length + ts.length = q ∧ (∀ t ∈ ts, TellOk n t) ∧ PoolOk l S4 ∧
    e = [some (.val (.ref l)), some (.val (.int most)), some (.val (.int odd)), some (.val (.int n)), some (.own (wD ws)), some (.own (ts.map tlD)), o6, o7, o8, o9, o10, o11]) _
    ⟨[], none, none, none, none, none, none, by simp [rng_len], (by intro t ht; cases ht), hp3, rfl⟩ ?_ ?_⟩
  · rintro d r e S4 ⟨ts, o6, o7, o8, o9, o10, o11, hlen, hts, hp4, rfl⟩
    refine ⟨_, rfl, ?_⟩
    simp
    refine run_evL ?_
    simp [D.pures]
    refine r_law_parts hp4 hn2 hn fun ls S5 hls hp5 => ?_
    simp
    refine run_forL (fun rest e S6 => ∃ (r2 : List (List Int)) (t : List Part) (o8 o9 o10 o11 : Option Slot), rest = r2.map lotD ∧ ls = t.map (·.1) ++ r2 ∧ (∀ p ∈ t, PartOk n p) ∧ PoolOk l S6 ∧
      e = [some (.val (.ref l)), some (.val (.int most)), some (.val (.int odd)), some (.val (.int n)), some (.own (wD ws)), some (.own (ts.map tlD)), some (.val d), some (.own (t.map prD)), o8, o9, o10, o11]) _
      ⟨ls, [], o8, o9, o10, o11, rfl, rfl, (by intro t ht; cases ht), hp5, rfl⟩ ?_ ?_
    · rintro d2 r3 e S6 ⟨r2, t, o8, o9, o10, o11, hr, hd, ht, hp6, rfl⟩
      cases r2 with
      | nil => cases hr
      | cons lot r2 =>
        rw [List.map_cons] at hr
        injection hr with e1 e2
        subst e1 e2
        have hlot := hls.lot lot (by rw [hd]; simp)
        have hll := hlot.1.2.2
        have htl : t.length ≤ n := by
          have q1 := congrArg List.length hd
          rw [List.length_append, List.length_map] at q1
          have := hls.ln; omega
        refine ⟨_, rfl, ?_⟩
        -- what is added, from the chances' weights
        have fin : ∀ (vs : List Nat) (S7 : List O) (o10 : Option Slot), Sml vs → vs.length = lot.length → PoolOk l S7 → Run (appM 7 (tupM (consA (getv 8) (consA (appA tupleD (consA (lstM (lcM [11] (itM (getv 9)) (setN 11) yesM (callF 2 C__law_lowest (consA (getv 11) (consA (appA sumD (consA (getv 9) nilM)) nilM))))) nilM)) nilM)))
            [some (.val (.ref l)), some (.val (.int most)), some (.val (.int odd)), some (.val (.int n)), some (.own (wD ws)), some (.own (ts.map tlD)), some (.val d), some (.own (t.map prD)), some (.val (lotD lot)), some (.own (wD vs)), o10, o11]) S7 fun fl S8 => ∃ e3, fl = .nx e3 ∧ ∃ (r2' : List (List Int)) (t : List Part) (o8 o9 o10 o11 : Option Slot), r2.map lotD = r2'.map lotD ∧ ls = t.map (·.1) ++ r2' ∧ (∀ p ∈ t, PartOk n p) ∧ PoolOk l S8 ∧
              e3 = [some (.val (.ref l)), some (.val (.int most)), some (.val (.int odd)), some (.val (.int n)), some (.own (wD ws)), some (.own (ts.map tlD)), some (.val d), some (.own (t.map prD)), o8, o9, o10, o11] := by
          intro vs S7 o10 hv hvl hp7
          have hne : vs ≠ [] := fun z => hlot.2 (List.length_eq_zero_iff.mp (by rw [← hvl, z]; rfl))
          have wt := sml_wts hv hne (by omega)
          simp
          refine run_evS ?_
          simp [wipeE]
          refine ⟨by simp [wD]; omega, lcX (fun w : Nat => D.int w) (fun _ => true) (fun w => frD (low w vs.sum)) ?_ ?_⟩
          · intro w hw
            refine ⟨_, rfl, ?_, fun _ => ?_⟩
            · simp
            · have e3 : (vs.map fun w : Nat => D.int w) = wD vs := rfl
              simp [e3, r_law_lowest wt.sum_pos wt.sm]
          · rw [List.filter_eq_self.mpr fun _ _ => rfl]
            have e3 : (vs.map fun w => frD (low w vs.sum)) = (chs vs).map frD := by unfold chs; rw [List.map_map]; rfl
            rw [e3]
            refine ⟨pure_part (lot, chs vs), by omega, r2, rfl, t ++ [(lot, chs vs)], by simp; exact hd, ?_, hp7, by simp⟩
            intro a b hp
            rcases List.mem_append.mp hp with h | h
            · exact ht _ h
            · rw [List.mem_singleton] at h
              rw [h]
              exact ⟨hlot.1, hlot.2, vs, wt, hvl, rfl⟩
        simp only [run_seqM, run_setM, run_ownM]
        refine run_evL (Pm.Run.mono (P := fun d S1 => d = wD (lot.map fun c => ws.getD c.toNat 0) ∧ S1 = S6) ?_ ?_)
        · simp [wipeE]
          refine ⟨by omega, lcX D.int (fun _ => true) (fun c => .int ((ws.getD c.toNat 0 : Nat) : Int)) ?_ ?_⟩
          · intro c hc
            have hb2 := hlot.1.1 c hc
            refine ⟨_, rfl, ?_, fun _ => ?_⟩
            · simp
            · obtain ⟨j, rfl⟩ := Int.eq_ofNat_of_zero_le hb2.1
              have ej : atI (wD ws) (j : Int) = some (.int ((ws.getD j 0 : Nat) : Int)) := idx_get (by
                unfold wD
                rw [List.getElem?_map, List.getElem?_eq_getElem (by omega), List.getD_eq_getElem?_getD, List.getElem?_eq_getElem (by omega)]; rfl)
              simp [ej]
          · rw [List.filter_eq_self.mpr fun _ _ => rfl]
            simp [wD]
        · rintro d3 S7 ⟨rfl, rfl⟩
          refine ⟨pures_wD _, ?_⟩
          simp only [List.set_cons_succ, List.set_cons_zero, run_ifM, run_tst, run_bin, run_callF, run_consA, run_getv, run_cM, run_nilM, bor_val, bor_own, bor_cons, Option.map, toD_val, toD_own, bor_nil, List.getElem?_cons_zero, List.getElem?_cons_succ, jS, Option.some.injEq, exists_eq_left', List.length_cons, List.length_nil, Nat.reduceAdd, true_and]
          refine r_take hp6 (by omega) (by omega) fun i S8 _ _ hp8 => ?_
          simp only [run_ltI, run_asB, D.bl.injEq, exists_eq_left']
          by_cases hio : i < odd
          · simp only [hio, decide_true, if_true, run_setM, run_ownM]
            refine run_evL (Pm.Run.mono (P := fun d S1 => ∃ vs : List Nat, d = wD vs ∧ Sml vs ∧ vs.length = lot.length ∧ PoolOk l S1) ?_ ?_)
            · simp [wipeE]
              refine ⟨by omega, r_ws (l := l) _ hp8 (fun d hd => ⟨_, rfl, fun S2 Q hp2 kk => r_1take rfl hp2 kk⟩) fun vs S9 hv hvl hp9 => ?_⟩
              exact ⟨vs, rfl, hv, by simpa using hvl, hp9⟩
            · rintro d4 S9 ⟨vs, rfl, hv, hvl, hp9⟩
              refine ⟨pures_wD _, ?_⟩
              simp only [List.set_cons_succ, List.set_cons_zero]
              refine (fin vs S9 _ hv hvl hp9).mono ?_
              rintro fl S10 ⟨e3, rfl, h⟩
              exact h
          · simp only [hio, decide_false, Bool.false_eq_true, if_false, run_nopM]
            refine (fin _ S8 _ (lot_ws hw hwl hlot.1) (by rw [List.length_map]) hp8).mono ?_
            rintro fl S10 ⟨e3, rfl, h⟩
            exact h
    · rintro e S6 ⟨r2, t, o8, o9, o10, o11, hr, hd, ht, hp6, rfl⟩
      cases r2 with
      | cons c r2 => cases hr
      | nil =>
        rw [List.append_nil] at hd
        have tok := tell_of hls (by omega) hd.symm ht
        simp
        refine run_evS ?_
        simp
        rw [List.length_cons] at hlen
        refine ⟨pure_tell t, by omega, ts ++ [t], by rw [List.length_append]; simp; omega, ?_, hp6, by simp⟩
        intro t2 h
        rcases List.mem_append.mp h with h | h
        · exact hts t2 h
        · rw [List.mem_singleton] at h
          rw [h]; exact tok
  · rintro e S4 ⟨ts, o6, o7, o8, o9, o10, o11, hlen, hts, hp4, rfl⟩
    rw [List.length_nil, Nat.zero_add] at hlen
    simp
    have e : dispD [(D.str "cases", D.int n), (D.str "tellings", tsD ts)] S4 = some (dD n ts, S4) := rfl
    rw [run_eq e]
    exact k n ts S4 ⟨hn2, hn, by omega, by omega, hts⟩ hp4
end Lw

set_option Elab.async false
set_option linter.all false
set_option maxRecDepth 100000
set_option maxHeartbeats 600000
/-! M52i: chances: sums of fractions, told and reckoned. -/
namespace Lw
open PySem L2 Pm
variable {S : List O} {P : D → List O → Prop}
/-! ### fractions in lowest terms -/
theorem low_eq {a b c d : Nat} (hb : 0 < b) (hd : 0 < d) (h : a * d = c * b) : low a b = low c d := by
  have m1 := low_mul (w := a) (T := b)
  have m2 := low_mul (w := c) (T := d)
  have c1 := low_cop (w := a) hb
  have c2 := low_cop (w := c) hd
  have p1 := low_pos (w := a) hb
  have p2 := low_pos (w := c) hd
  generalize low a b = p at m1 c1 p1 ⊢
  generalize low c d = q at m2 c2 p2 ⊢
  obtain ⟨x, y⟩ := p
  obtain ⟨z, w⟩ := q
  simp only at m1 m2 c1 c2 p1 p2
  have key : x * w = z * y := by
    have : x * w * (b * d) = z * y * (b * d) := by grind
    exact Nat.eq_of_mul_eq_mul_right (Nat.mul_pos hb hd) this
  have e1 : x ∣ z := Nat.Coprime.dvd_of_dvd_mul_right c1 ⟨w, by rw [key]⟩
  have e2 : z ∣ x := Nat.Coprime.dvd_of_dvd_mul_right c2 ⟨y, by rw [← key]⟩
  have ez : x = z := Nat.dvd_antisymm e1 e2
  subst ez
  have f1 : y ∣ w := Nat.Coprime.dvd_of_dvd_mul_left (Nat.Coprime.symm c1) ⟨x, by rw [key, Nat.mul_comm]⟩
  have f2 : w ∣ y := Nat.Coprime.dvd_of_dvd_mul_left (Nat.Coprime.symm c2) ⟨x, by rw [← key, Nat.mul_comm]⟩
  rw [Nat.dvd_antisymm f1 f2]
theorem low_low {a b : Nat} (hb : 0 < b) : low (low a b).1 (low a b).2 = low a b := low_eq (low_pos hb) hb low_mul
theorem low_add {a b T : Nat} (hT : 0 < T) : low ((low a T).1 * (low b T).2 + (low b T).1 * (low a T).2) ((low a T).2 * (low b T).2) = low (a + b) T := by
  have m1 := low_mul (w := a) (T := T)
  have m2 := low_mul (w := b) (T := T)
  refine low_eq (Nat.mul_pos (low_pos hT) (low_pos hT)) hT ?_
  generalize low a T = p at m1 ⊢
  generalize low b T = q at m2 ⊢
  obtain ⟨x, y⟩ := p
  obtain ⟨z, w⟩ := q
  simp only at m1 m2 ⊢
  grind
theorem low_zero {T : Nat} (hT : 0 < T) : low 0 T = (0, 1) := by
  unfold low
  rw [Nat.gcd_zero_left, Nat.zero_div, Nat.div_self hT]
theorem low_one {T : Nat} (hT : 0 < T) : low T T = (1, 1) := by
  unfold low
  rw [Nat.gcd_self, Nat.div_self hT]
theorem low_le1 {a T : Nat} (hT : 0 < T) (h : a ≤ T) : (low a T).1 ≤ (low a T).2 := by
  have m := low_mul (w := a) (T := T)
  have : (low a T).1 * T ≤ (low a T).2 * T := by rw [m, Nat.mul_comm]; exact Nat.mul_le_mul_left _ h
  exact Nat.le_of_mul_le_mul_right this hT
theorem low_mono {a b T : Nat} (hT : 0 < T) (h : a ≤ b) : (low a T).1 * (low b T).2 ≤ (low b T).1 * (low a T).2 := by
  have m1 := low_mul (w := a) (T := T)
  have m2 := low_mul (w := b) (T := T)
  generalize low a T = p at m1 ⊢
  generalize low b T = q at m2 ⊢
  obtain ⟨x, y⟩ := p
  obtain ⟨z, w⟩ := q
  simp only at m1 m2 ⊢
  have e1 : x * w * T = a * (y * w) := by grind
  have e2 : z * y * T = b * (y * w) := by grind
  have : x * w * T ≤ z * y * T := by rw [e1, e2]; exact Nat.mul_le_mul_right _ h
  exact Nat.le_of_mul_le_mul_right this hT
/-- sums of w / T -/
theorem r_sum_list {ws : List Nat} {T : Nat} (hT : 0 < T) (hT2 : T < 2 ^ 14) (hs : ws.sum ≤ T) : Run (C_sum_of [.lst (ws.map fun w => frD (low w T))]) S P ↔ P (frD (low ws.sum T)) S := by
  refine run_is ?_
  unfold C_sum_of m_sum_of
  simp only [run_body, env0, List.map_cons, List.map_nil, List.length_cons, List.length_nil]
  simp only [Nat.reduceAdd, Nat.reduceSub, List.replicate_succ, List.replicate_zero, List.cons_append, List.nil_append, run_seqM, run_setM, run_valM]
  rw [run_evS_same rfl]
  simp only [run_cM, List.set_cons_succ, List.set_cons_zero, run_forM, str_val, str_none, str_nil, run_itM, run_getv, List.getElem?_cons_zero, jS, Option.some.injEq, exists_eq_left', run_itL]
  refine run_forL (fun rest e S1 => S1 = S ∧ ∃ (vs : List Nat) (a : Nat) (o : Option Slot), rest = vs.map (fun w => frD (low w T)) ∧ a + vs.sum = ws.sum ∧ e = [some (.val (.lst (ws.map fun w => frD (low w T)))), some (.val (frD (low a T))), o]) _
    ⟨rfl, ws, 0, none, rfl, by omega, by rw [low_zero hT]; rfl⟩ ?_ ?_
  · rintro d r e S1 ⟨rfl, vs, a, o, hr, hv, rfl⟩
    cases vs with
    | nil => cases hr
    | cons w vs =>
      rw [List.map_cons] at hr
      injection hr with h1 h2
      subst h1 h2
      rw [List.sum_cons] at hv
      refine ⟨_, rfl, ?_⟩
      have b1 := low_pos (w := w) hT
      have b2 := low_le (w := w) (T := T)
      have b3 := low_le1 (a := w) hT (by omega)
      have b4 := low_pos (w := a) hT
      have b5 := low_le (w := a) (T := T)
      have b6 := low_le1 (a := a) hT (by omega)
      simp only [setNS, List.set_cons_succ, List.set_cons_zero, run_setM, run_valM]
      rw [run_evS_same rfl]
      simp only [run_callF, run_consA, run_getv, run_nilM, bor_val, bor_nil, List.getElem?_cons_zero, List.getElem?_cons_succ, jS, Option.some.injEq, exists_eq_left', List.length_cons, List.length_nil, true_and]
      rw [r_plus b4 b1 (by omega) (by omega) (by omega) (by omega), low_add hT]
      exact ⟨rfl, vs, a + w, _, rfl, by omega, rfl⟩
  · rintro e S1 ⟨rfl, vs, a, o, hr, hv, rfl⟩
    cases vs with
    | cons w vs => cases hr
    | nil =>
      have : a = ws.sum := by simpa using hv
      subst this
      simp
/-! ### what is told of a case -/
theorem pairs_eq {α : Type} {R : α → α → Prop} : ∀ {l : List α}, l.Pairwise R → ∀ {p q : α}, p ∈ l → q ∈ l → p = q ∨ R p q ∨ R q p
  | x :: r, h, p, q, hp, hq => by
    obtain ⟨h1, h2⟩ := List.pairwise_cons.mp h
    rcases List.mem_cons.mp hp with ep | hp2
    · rcases List.mem_cons.mp hq with eq | hq2
      · exact .inl (ep.trans eq.symm)
      · rw [ep]; exact .inr (.inl (h1 q hq2))
    · rcases List.mem_cons.mp hq with eq | hq2
      · rw [eq]; exact .inr (.inr (h1 p hp2))
      · exact pairs_eq h2 hp2 hq2
theorem cell_mem {n : Nat} {t : List Part} (h : TellOk n t) {c : Int} (hc : c ∈ rng n) : c ∈ seenL t c := by
  obtain ⟨r, e⟩ := cell_some h hc
  have hm : cell t c ∈ t.filter fun p => decide (c ∈ p.1) := by rw [e]; exact List.mem_cons_self
  exact of_decide_eq_true (List.mem_filter.mp hm).2
theorem cell_rng {n : Nat} {t : List Part} (h : TellOk n t) {c e : Int} (hc : c ∈ rng n) (he : e ∈ seenL t c) : e ∈ rng n :=
  (h.ev.mem_iff).mpr (List.mem_flatMap.mpr ⟨_, cell_ok h hc, he⟩)
/-- who stands in c's part sees it -/
theorem cell_same {n : Nat} {t : List Part} (h : TellOk n t) {c e : Int} (hc : c ∈ rng n) (he : e ∈ seenL t c) : cell t e = cell t c := by
  have her := cell_rng h hc he
  have nd : (t.flatMap (·.1)).Nodup := (h.ev.nodup_iff).mp ((rng_sorted n).imp fun h => by omega)
  rw [List.flatMap_def] at nd
  have hd := (List.pairwise_flatten.mp nd).2
  rw [List.pairwise_map] at hd
  rcases pairs_eq hd (cell_ok h her) (cell_ok h hc) with r | r | r
  · exact r
  · exact absurd rfl (r e (cell_mem h her) e he)
  · exact absurd rfl (r e he e (cell_mem h her))
/-- the weight at a place -/
def wAt (l : List Int) (ws : List Nat) (c : Int) : Nat := ws.getD (l.idxOf c) 0
theorem sh_int (c : Int) : SeqAt.shaped (.int c) = true := rfl
theorem r_index {l : List Int} {c : Int} (h : c ∈ l) : Run (indexD (lotD l) (.int c)) S P ↔ P (.int (l.idxOf c : Nat)) S := by
  refine run_eq ?_
  unfold indexD
  rw [show (D.int c).toPy = some (.int c) from rfl]
  simp only [pys_int]
  rw [if_pos ⟨sh_int c, sh_lot l⟩]
  have e : (l.map PyData.int).findIdx? (fun z => PyData.eqv z (.int c)) = some (l.idxOf c) := by
    rw [List.findIdx?_map]
    have e2 : ((fun z => PyData.eqv z (PyData.int c)) ∘ PyData.int) = fun x : Int => x == c := rfl
    rw [e2]
    exact List.findIdx?_eq_some_iff_findIdx_eq.mpr ⟨List.idxOf_lt_length_iff.mpr h, rfl⟩
  rw [e]
  rfl
end Lw

set_option Elab.async false
set_option linter.all false
set_option maxRecDepth 100000
set_option maxHeartbeats 600000
/-! M52j: what is told, seen chances. -/
namespace Lw
open PySem L2 Pm
variable {S : List O} {P : D → List O → Prop}
@[simp] theorem run_asgM {set : SetS} {m : Pm.Env → M D} {se : SEnv} {PF : Flo → List O → Prop} : Run (asgM set m se) S PF ↔ Run (evS m se) S fun d S1 => ∃ e, set d se = some e ∧ PF (.nx e) S1 := by
  unfold asgM
  simp only [run_bnd]
  refine ⟨fun h => h.mono fun d S1 q => ?_, fun h => h.mono fun d S1 q => ?_⟩
  · cases e : set d se with
    | none => rw [e] at q; simp at q
    | some e2 => rw [e] at q; exact ⟨e2, rfl, by simpa using q⟩
  · obtain ⟨e2, h1, h2⟩ := q
    rw [h1]; simpa using h2
theorem r_told_of {n i : Nat} {ts : List (List Part)} {t : List Part} (ht : ts[i]? = some t) (h : TellOk n t) {c e : Int} (hc : c ∈ rng n) {l : List Int} {ws : List Nat} (hp : cell t c = (l, chs ws)) (hlen : ws.length = l.length) (he : e ∈ l) :
    Run (C_told_of [hallD n ts, .int i, .int e]) S P ↔ P (frD (low (wAt l ws e) ws.sum)) S := by
  refine run_is ?_
  have he2 : e ∈ seenL t c := by unfold seenL; rw [hp]; exact he
  have er := cell_rng h hc he2
  have ec := (cell_same h hc he2).trans hp
  unfold C_told_of m_told_of
  simp only [run_body, env0, List.map_cons, List.map_nil, List.length_cons, List.length_nil]
  simp
  rw [run_evS_same rfl]
  have hi := List.idxOf_lt_length_iff.mpr he
  have ex : atI ((chs ws).map frD) ((l.idxOf e : Nat) : Int) = some (frD (low (wAt l ws e) ws.sum)) := idx_get (by
    unfold chs wAt
    rw [List.map_map, List.getElem?_map, List.getElem?_eq_getElem (by omega), List.getD_eq_getElem?_getD, List.getElem?_eq_getElem (by omega)]; rfl)
  simp [r_part_at ht h er, ec, setTS, setAllS, r_index he, ex]
/-- the weight of a lot -/
def wSum (l : List Int) (ws : List Nat) (lot : List Int) : Nat := ((l.filter fun c => decide (c ∈ lot)).map (wAt l ws)).sum
theorem sum_mono {f : Int → Nat} {p q : Int → Bool} : ∀ {l : List Int}, (∀ x ∈ l, p x = true → q x = true) → ((l.filter p).map f).sum ≤ ((l.filter q).map f).sum
  | [], _ => Nat.le_refl _
  | x :: r, h => by
    have ih := sum_mono (f := f) (p := p) (q := q) (l := r) fun y hy => h y (List.mem_cons_of_mem _ hy)
    have hx := h x List.mem_cons_self
    by_cases hp : p x = true
    · rw [List.filter_cons_of_pos hp, List.filter_cons_of_pos (hx hp), List.map_cons, List.map_cons, List.sum_cons, List.sum_cons]; omega
    · rw [List.filter_cons_of_neg hp]
      by_cases hq : q x = true
      · rw [List.filter_cons_of_pos hq, List.map_cons, List.sum_cons]; omega
      · rw [List.filter_cons_of_neg hq]; exact ih
theorem zip_wAt : ∀ {l : List Int} {ws : List Nat}, l.Nodup → ws.length = l.length → l.zip ws = l.map fun c => (c, wAt l ws c)
  | [], _, _, _ => by simp
  | x :: r, [], _, h => by simp at h
  | x :: r, w :: ws, hn, h => by
    obtain ⟨h1, h2⟩ := List.nodup_cons.mp hn
    rw [List.zip_cons_cons, zip_wAt h2 (by simpa using h), List.map_cons]
    congr 1
    · simp [wAt]
    · refine List.map_congr_left fun c hc => ?_
      have hne : x ≠ c := fun e => h1 (e ▸ hc)
      unfold wAt
      simp [List.idxOf_cons, beq_eq_false_iff_ne.mpr hne]
theorem all_wAt {l : List Int} {ws : List Nat} (hn : l.Nodup) (h : ws.length = l.length) : l.map (wAt l ws) = ws := by
  have e := congrArg (List.map Prod.snd) (zip_wAt hn h)
  rw [List.map_map, List.map_snd_zip (by omega)] at e
  exact e.symm
theorem wSum_le {l : List Int} {ws : List Nat} (hn : l.Nodup) (h : ws.length = l.length) (lot : List Int) : wSum l ws lot ≤ ws.sum := by
  have e := sum_mono (f := wAt l ws) (p := fun c => decide (c ∈ lot)) (q := fun _ => true) (l := l) fun _ _ _ => rfl
  rw [List.filter_eq_self.mpr fun _ _ => rfl, all_wAt hn h] at e
  exact e
theorem wSum_mono {l : List Int} {ws : List Nat} {a b : List Int} (h : ∀ x ∈ a, x ∈ b) : wSum l ws a ≤ wSum l ws b := sum_mono fun x _ hx => by simpa using h x (by simpa using hx)
theorem eqvAll_int : ∀ a b : List Int, PyData.eqvAll (a.map .int) (b.map .int) = decide (a = b)
  | [], [] => rfl
  | [], _ :: _ => rfl
  | _ :: _, [] => rfl
  | x :: a, y :: b => by
    simp only [List.map_cons, PyData.eqvAll, PyData.eqv, eqvAll_int a b, List.cons.injEq]
    rw [Bool.eq_iff_iff]
    simp
theorem e_lotQ {g : Bool → Bool} {a b : List Int} : Run (eqP g (lotD a) (lotD b)) S P ↔ P (.bl (g (decide (a = b)))) S := by
  rw [eq_py (py_lot a) (py_lot b) (sh_lot a) (sh_lot b)]
  simp only [PyData.eqv, eqvAll_int]
theorem e_neZ {p : Nat × Nat} : Run (neD (frD p) (.tup [.int 0, .int 1])) S P ↔ P (.bl (!decide (p = (0, 1)))) S := by
  have := @e_lotQ S P not [(p.1 : Int), (p.2 : Int)] [0, 1]
  unfold neD
  refine this.trans ?_
  have e : decide ([(p.1 : Int), (p.2 : Int)] = [0, 1]) = decide (p = (0, 1)) := by
    obtain ⟨a, b⟩ := p
    simp
    rw [Bool.eq_iff_iff]
    simp
    omega
  rw [e]
structure CellOk (n : Nat) (t : List Part) (c : Int) (l : List Int) (ws : List Nat) : Prop where
  eq : cell t c = (l, chs ws)
  len : ws.length = l.length
  nd : l.Nodup
  wt : Wts ws
  le : l.length ≤ n
theorem cell_ws {n : Nat} {t : List Part} (h : TellOk n t) {c : Int} (hc : c ∈ rng n) : ∃ l ws, CellOk n t c l ws := by
  have hp := h.pt _ (cell_ok h hc)
  obtain ⟨ws, hw, hl, he⟩ := hp.ch
  refine ⟨_, ws, Prod.ext rfl he, hl, hp.lot.2.1.imp fun h => by omega, hw, ?_⟩
  have e := h.ev.length_eq
  rw [rng_len, List.length_flatMap] at e
  rw [e]
  exact mem_le_sum (List.mem_map.mpr ⟨_, cell_ok h hc, rfl⟩)
end Lw

set_option Elab.async false
set_option linter.all false
set_option maxRecDepth 100000
set_option maxHeartbeats 600000
/-! M52k: quotients, ties, who stands together. -/
namespace Lw
open PySem L2 Pm
variable {S : List O} {P : D → List O → Prop}
theorem small_log2 {g : Nat} (h : g < 2 ^ 100) : g.log2 < 9000 := by
  by_cases hz : g = 0
  · subst hz; decide
  · have := (Nat.log2_lt hz).mpr h; omega
theorem r_low_big {a b : Nat} (hb : 0 < b) (hb2 : b < 2 ^ 100) : Run (C_lowest [.int a, .int b]) S P ↔ P (frD (low a b)) S := by
  unfold C_lowest m_lowest
  have hg : 0 < Nat.gcd a b := Nat.gcd_pos_of_pos_right _ hb
  have hgl : Nat.gcd a b ≤ b := Nat.gcd_le_right _ hb
  have hd : ∀ i : Int, CDivW i ((Nat.gcd a b : Nat) : Int) := fun i => ⟨by omega, by
    rw [Int.natAbs_natCast]; exact small_log2 (by omega)⟩
  simp only [run_body, env0, List.map_cons, List.map_nil, List.length_cons, List.length_nil]
  simp only [Nat.reduceAdd, Nat.reduceSub, List.replicate_succ, List.replicate_zero, List.cons_append, List.nil_append, run_seqM, run_setM, run_valM]
  rw [run_evS_same rfl]
  simp [hb, hd, low]
  simp only [frD, Int.natCast_ediv]
theorem r_times {p q : Nat × Nat} (h1 : 0 < p.2) (h2 : 0 < q.2) (b2 : p.2 < 2 ^ 84) (b3 : q.1 < 2 ^ 14) (b4 : q.2 < 2 ^ 14) : Run (C_times [frD p, frD q]) S P ↔ P (frD (low (p.1 * q.1) (p.2 * q.2))) S := by
  unfold C_times m_times
  have c1 : ∀ u : Int, CMul u (q.1 : Int) := fun u => .inr ⟨by omega, by omega⟩
  have c2 : ∀ u : Int, CMul u (q.2 : Int) := fun u => .inr ⟨by omega, by omega⟩
  have hm : p.2 * q.2 < 2 ^ 100 := Nat.lt_of_lt_of_le (Nat.mul_lt_mul'' b2 b4) (by decide)
  have e1 : ((p.1 : Int) * (q.1 : Int)) = ((p.1 * q.1 : Nat) : Int) := by simp
  have e2 : ((p.2 : Int) * (q.2 : Int)) = ((p.2 * q.2 : Nat) : Int) := by simp
  simp only [run_body, env0, List.map_cons, List.map_nil, List.length_cons, List.length_nil]
  simp [c1, c2]
  rw [e1, e2, r_low_big (Nat.mul_pos h1 h2) hm]
theorem wAt_mem {l : List Int} {ws : List Nat} (h : ws.length = l.length) {e : Int} (he : e ∈ l) : wAt l ws e ∈ ws := by
  have hi := List.idxOf_lt_length_iff.mpr he
  unfold wAt
  rw [List.getD_eq_getElem?_getD, List.getElem?_eq_getElem (by omega)]
  exact List.getElem_mem _
theorem r_quotient {n i : Nat} {ts : List (List Part)} {t : List Part} (ht : ts[i]? = some t) (h : TellOk n t) {c e : Int} (hc : c ∈ rng n) {l : List Int} {ws : List Nat} (k : CellOk n t c l ws) (he : e ∈ l) :
    Run (C_quotient [hallD n ts, .int i, .int c, .int e]) S P ↔ P (frD (low (wAt l ws e) (wAt l ws c))) S := by
  have hcl : c ∈ l := by have := cell_mem h hc; unfold seenL at this; rw [k.eq] at this; exact this
  have hT := k.wt.sum_pos
  have hT2 := k.wt.sm
  have pe := k.wt.pos _ (wAt_mem k.len he)
  have pc := k.wt.pos _ (wAt_mem k.len hcl)
  have le := mem_le_sum (wAt_mem k.len he)
  have lc := mem_le_sum (wAt_mem k.len hcl)
  unfold C_quotient m_quotient
  simp only [run_body, env0, List.map_cons, List.map_nil, List.length_cons, List.length_nil]
  simp [r_told_of ht h hc k.eq k.len he, r_told_of ht h hc k.eq k.len hcl]
  generalize wAt l ws e = a at pe le ⊢
  generalize wAt l ws c = b at pc lc ⊢
  generalize ws.sum = T at hT hT2 le lc ⊢
  have a1 := low_pos (w := a) hT
  have a2 := low_le (w := a) (T := T)
  have a3 := low_le1 hT le
  have a4 := low_mul (w := a) (T := T)
  have b1 := low_pos (w := b) hT
  have b2 := low_le (w := b) (T := T)
  have b3 := low_le1 hT lc
  have b4 := low_mul (w := b) (T := T)
  have b5 := low_pos1 (T := T) pc
  unfold C_divided m_divided
  generalize low a T = f at a1 a2 a3 a4 ⊢
  generalize low b T = g at b1 b2 b3 b4 b5 ⊢
  obtain ⟨f1, f2⟩ := f
  obtain ⟨g1, g2⟩ := g
  simp only at a1 a2 a3 a4 b1 b2 b3 b4 b5 ⊢
  have c1 : ∀ u : Int, CMul u (g2 : Int) := fun u => .inr ⟨by omega, by omega⟩
  have c2 : ∀ u : Int, CMul u (g1 : Int) := fun u => .inr ⟨by omega, by omega⟩
  have hm : f2 * g1 < 2 ^ 100 := Nat.lt_of_lt_of_le (Nat.mul_lt_mul'' (show f2 < 2 ^ 14 by omega) (show g1 < 2 ^ 14 by omega)) (by decide)
  have e1 : ((f1 : Int) * (g2 : Int)) = ((f1 * g2 : Nat) : Int) := by simp
  have e2 : ((f2 : Int) * (g1 : Int)) = ((f2 * g1 : Nat) : Int) := by simp
  simp only [run_body, env0, List.map_cons, List.map_nil, List.length_cons, List.length_nil]
  simp [c1, c2]
  rw [e1, e2, r_low_big (Nat.mul_pos a1 b5) hm]
  have e3 : low (f1 * g2) (f2 * g1) = low a b := low_eq (Nat.mul_pos a1 b5) pc (by
    have : f1 * g2 * b * T = a * (f2 * g1) * T := by grind
    exact Nat.eq_of_mul_eq_mul_right hT this)
  rw [e3]
/-! ### ties -/
@[simp] theorem run_neI {i j : Int} : Run (neD (.int i) (.int j)) S P ↔ P (.bl (!decide (i = j))) S := by
  refine run_eq ?_
  show eqP not _ _ _ = _
  have hs : ∀ k : Int, SeqAt.shaped (.int k) = true := fun k => rfl
  simp only [eqP, D.toPy, hs, and_self, if_true, Pm.ret]
  congr 2
@[simp] theorem run_extM {i : Nat} {me : Pm.Env → M (List D)} {se : SEnv} {PF : Flo → List O → Prop} : Run (extM i me se) S PF ↔ Run (evL me se) S fun d S1 => ∃ ds, se[i]? = some (some (.own ds)) ∧ ds.length + d.length ≤ sizeLine ∧ PF (.nx (se.set i (some (.own (ds ++ d))))) S1 := by
  unfold extM
  simp only [run_bnd]
  refine ⟨fun h => h.mono fun d S1 q => ?_, fun h => h.mono fun d S1 q => ?_⟩
  · split at q
    · rename_i ds e
      rw [run_ite] at q
      split at q
      · exact ⟨ds, e, by assumption, by simpa using q⟩
      · simp at q
    · simp at q
  · obtain ⟨ds, e, hl, p⟩ := q
    rw [e]
    simp only
    rw [if_pos hl]
    simpa using p
abbrev tpD (p : Int × Int) : D := .tup [.int p.1, .int p.2]
def tieL (t : List Part) (c i : Int) : List (Int × Int) := ((seenL t c).filter fun e => !decide (e = c)).map fun e => (i, e)
def tie (ts : List (List Part)) (c : Int) : List (Int × Int) := (rng ts.length).flatMap fun i => tieL (ts.getD i.toNat []) c i
theorem seen_le {n : Nat} {t : List Part} (h : TellOk n t) {c : Int} (hc : c ∈ rng n) : (seenL t c).length ≤ n := by
  obtain ⟨l, ws, k⟩ := cell_ws h hc
  unfold seenL
  rw [k.eq]; exact k.le
theorem flat_len {α β : Type} {f : α → List β} {m : Nat} : ∀ {l : List α}, (∀ x ∈ l, (f x).length ≤ m) → (l.flatMap f).length ≤ l.length * m
  | [], _ => by simp
  | x :: r, h => by
    have h1 := h x List.mem_cons_self
    have h2 := flat_len (l := r) fun y hy => h y (List.mem_cons_of_mem _ hy)
    rw [List.flatMap_cons, List.length_append, List.length_cons, Nat.succ_mul]; omega
theorem pures_tp (l : List (Int × Int)) : D.pures (l.map tpD) = true := pures_all fun d hd => by
  obtain ⟨p, _, rfl⟩ := List.mem_map.mp hd; rfl
theorem r_tied_with {n : Nat} {ts : List (List Part)} (hk : HallOk n ts) {c : Int} (hc : c ∈ rng n) : Run (C_tied_with [hallD n ts, .int c]) S P ↔ P (.lst ((tie ts c).map tpD)) S := by
  refine run_is ?_
  have hb := slb
  have hn := hk.hi
  have ht3 := hk.t3
  unfold C_tied_with m_tied_with
  simp only [run_body, env0, List.map_cons, List.map_nil, List.length_cons, List.length_nil]
  simp
  refine run_evL ?_
  simp [D.pures, r_persons_of (show ts.length ≤ 100 by omega)]
  refine run_forL (fun rest e S1 => S1 = S ∧ ∃ (dn r : List Int) (o3 : Option Slot), rest = r.map .int ∧ rng ts.length = dn ++ r ∧ e = [some (.val (hallD n ts)), some (.val (.int c)), some (.own ((dn.flatMap fun i => tieL (ts.getD i.toNat []) c i).map tpD)), o3, none]) _ ⟨rfl, [], rng ts.length, none, rfl, rfl, rfl⟩ ?_ ?_
  · rintro d r e S1 ⟨rfl, dn, r2, o3, hr, hd, rfl⟩
    cases r2 with
    | nil => cases hr
    | cons i r2 =>
      rw [List.map_cons] at hr
      injection hr with h1 h2
      subst h1 h2
      have hmem : ∀ x ∈ dn ++ i :: r2, ∃ j : Nat, x = (j : Int) ∧ j < ts.length := fun x hx => rng_mem (by rw [hd]; exact hx)
      have hdl := rng_app hd
      obtain ⟨j, rfl, hj⟩ := hmem i (by simp)
      have hg := get_at hj
      have tok := hk.tl _ (List.mem_of_getElem? hg)
      have hsl := seen_le tok hc
      have hdd : (dn.flatMap fun i => tieL (ts.getD i.toNat []) c i).length ≤ dn.length * 6 := flat_len fun x hx => by
        obtain ⟨q, rfl, hq⟩ := hmem x (by simp [hx])
        have tq := hk.tl _ (List.mem_of_getElem? (get_at hq))
        have := seen_le tq hc
        unfold tieL
        rw [List.length_map]
        exact Nat.le_trans (List.length_filter_le _ _) (by rw [Int.toNat_natCast]; omega)
      refine ⟨_, rfl, ?_⟩
      simp only [setNS, List.set_cons_succ, List.set_cons_zero, run_extM]
      refine run_evL ?_
      simp [r_seen_by hg tok hc, wipeE, -List.getD_eq_getElem?_getD, -List.length_flatMap]
      refine ⟨by omega, lcX D.int (fun e => !decide (e = c)) (fun e => tpD ((j : Int), e)) ?_ ?_⟩
      · intro e he
        refine ⟨_, rfl, ?_, fun _ => ?_⟩
        · simp [-List.getD_eq_getElem?_getD]
          exact Classical.em _
        · simp
      · have e1 : ((seenL (ts.getD j []) c).filter fun e => !decide (e = c)).map (fun e => tpD ((j : Int), e)) = (tieL (ts.getD ((j : Int)).toNat []) c (j : Int)).map tpD := by
          unfold tieL; rw [List.map_map, Int.toNat_natCast]; rfl
        rw [e1]
        refine ⟨pures_tp _, ?_, rfl, dn ++ [(j : Int)], r2, rfl, by rw [hd]; simp, by simp⟩
        rw [List.length_map]
        have : (tieL (ts.getD ((j : Int)).toNat []) c (j : Int)).length ≤ 6 := by
          unfold tieL
          rw [List.length_map]
          exact Nat.le_trans (List.length_filter_le _ _) (by rw [Int.toNat_natCast]; omega)
        omega
  · rintro e S1 ⟨rfl, dn, r2, o3, hr, hd, rfl⟩
    cases r2 with
    | cons c r2 => cases hr
    | nil =>
      rw [List.append_nil] at hd
      simp [tie, hd]
theorem tie_mem {ts : List (List Part)} {c : Int} {p : Int × Int} : p ∈ tie ts c ↔ ∃ (j : Nat) (t : List Part), p.1 = (j : Int) ∧ ts[j]? = some t ∧ p.2 ∈ seenL t c ∧ p.2 ≠ c := by
  unfold tie tieL
  constructor
  · intro h
    obtain ⟨i, hi, hp⟩ := List.mem_flatMap.mp h
    obtain ⟨j, rfl, hj⟩ := rng_mem hi
    obtain ⟨e, he, rfl⟩ := List.mem_map.mp hp
    have he := List.mem_filter.mp he
    rw [Int.toNat_natCast] at he
    exact ⟨j, _, rfl, get_at hj, he.1, by simpa using he.2⟩
  · rintro ⟨j, t, h1, h2, h3, h4⟩
    have hj : j < ts.length := (List.getElem?_eq_some_iff.mp h2).1
    refine List.mem_flatMap.mpr ⟨(j : Int), mem_rng (by omega) (by omega), List.mem_map.mpr ⟨p.2, List.mem_filter.mpr ⟨?_, by simpa using h4⟩, Prod.ext h1.symm rfl⟩⟩
    rw [Int.toNat_natCast, List.getD_eq_getElem?_getD, h2]; exact h3
/-! ### who stands together -/
inductive Conn (ts : List (List Part)) (c : Int) : Int → Prop
  | refl : Conn ts c c
  | step {b e : Int} {t : List Part} : Conn ts c b → t ∈ ts → e ∈ seenL t b → Conn ts c e
theorem Conn.rng {n : Nat} {ts : List (List Part)} (hk : HallOk n ts) {c e : Int} (hc : c ∈ Lw.rng n) (h : Conn ts c e) : e ∈ Lw.rng n := by
  induction h with
  | refl => exact hc
  | step _ ht he ih => exact cell_rng (hk.tl _ ht) ih he
theorem Conn.trans {ts : List (List Part)} {a b c : Int} (h : Conn ts a b) (k : Conn ts b c) : Conn ts a c := by
  induction k with
  | refl => exact h
  | step _ ht he ih => exact .step ih ht he
theorem seen_symm {n : Nat} {t : List Part} (h : TellOk n t) {c e : Int} (hc : c ∈ rng n) (he : e ∈ seenL t c) : c ∈ seenL t e := by
  have := cell_mem h hc
  unfold seenL at this ⊢
  rw [cell_same h hc he]; exact this
theorem Conn.symm {n : Nat} {ts : List (List Part)} (hk : HallOk n ts) {c e : Int} (hc : c ∈ Lw.rng n) (h : Conn ts c e) : Conn ts e c := by
  induction h with
  | refl => exact .refl
  | @step b e t hb ht he ih => exact (Conn.step .refl ht (seen_symm (hk.tl _ ht) (hb.rng hk hc) he)).trans ih
/-- what is closed holds all that stands together -/
theorem Conn.closed {ts : List (List Part)} {c e : Int} {K : Int → Prop} (h : Conn ts c e) (hc : K c) (hK : ∀ x, K x → ∀ t ∈ ts, ∀ f ∈ seenL t x, K f) : K e := by
  induction h with
  | refl => exact hc
  | step _ ht he ih => exact hK _ ih _ ht _ he
end Lw

set_option Elab.async false
set_option linter.all false
set_option maxRecDepth 100000
set_option maxHeartbeats 600000
/-! M52l: the tree from a case. -/
namespace Lw
open PySem L2 Pm
variable {S : List O} {P : D → List O → Prop}
abbrev kI (K : List Int) : List Key := K.map Sum.inl
theorem r_fldR {c f : Str} {l : Nat} {ns : List Str} {ds : List D} {d : D} (h : S[l]? = some (.ins c ns ds)) (hl : (ns.zip ds).lookup f = some d) : Run (fldOf c f (.ref l)) S P ↔ P d S := by
  refine run_eq ?_
  unfold fldOf
  simp only [h]
  rw [if_pos trivial, hl]; rfl
@[simp] theorem run_dputM {me mo mi : Pm.Env → M D} {se : SEnv} {PF : Flo → List O → Prop} : Run (dputM me mo mi se) S PF ↔ Run (evS me se) S fun v S1 => Run (mo (str se)) S1 fun o S2 => Run (mi (str se)) S2 fun i S3 => Run (dputD o i v) S3 fun _ S4 => PF (.nx se) S4 := by
  unfold dputM; simp only [run_bnd, run_ret]
theorem r_dput {l : Nat} {ks : List Key} {ds : List D} {e : Int} {v : D} {PU : Unit → List O → Prop} (h : S[l]? = some (.dic ks ds)) (hv : v.pure = true) (hz : ks.length < sizeLine) : Run (dputD (.ref l) (.int e) v) S PU ↔ PU () (S.set l (O.ofP (putP (ks.zip ds) (.inl e) v))) := by
  refine run_eq ?_
  have e1 : D.key (.int e) = some (.inl e) := rfl
  simp only [dputD, e1, h]
  rw [if_pos ⟨hv, hz⟩]
theorem any_kI {e : Int} : ∀ K : List Int, ((kI K).any fun q => decide (q = Sum.inl e)) = decide (e ∈ K)
  | [] => rfl
  | x :: r => by
    have ih := any_kI (e := e) r
    unfold kI at ih ⊢
    rw [List.map_cons, List.any_cons, ih]
    by_cases h : x = e
    · subst h; simp
    · have h2 : ¬ e = x := fun z => h z.symm
      simp [h, h2]
theorem put_new {K : List Int} {bs : List D} {e : Int} {v : D} (hl : bs.length = K.length) (he : e ∉ K) : O.ofP (putP ((kI K).zip bs) (.inl e) v) = .dic (kI (K ++ [e])) (bs ++ [v]) := by
  have h1 : ((kI K).zip bs).map (·.1) = kI K := List.map_fst_zip (by rw [List.length_map]; omega)
  have h2 : ((kI K).zip bs).map (·.2) = bs := List.map_snd_zip (by rw [List.length_map]; omega)
  have h3 : (((kI K).zip bs).any fun kv => decide (kv.1 = Sum.inl e)) = false := by
    have : (((kI K).zip bs).any fun kv => decide (kv.1 = Sum.inl e)) = ((((kI K).zip bs).map (·.1)).any fun q => decide (q = Sum.inl e)) := by rw [List.any_map]; rfl
    rw [this, h1, any_kI, decide_eq_false he]
  unfold O.ofP putP
  rw [h3, if_neg Bool.false_ne_true, List.map_append, List.map_append, h1, h2]
  simp [kI]
theorem r_dnin {l : Nat} {K : List Int} {ds : List D} {e : Int} (h : S[l]? = some (.dic (kI K) ds)) : Run (dninD (.int e) (.ref l)) S P ↔ P (.bl (!decide (e ∈ K))) S := by
  refine run_eq ?_
  have e1 : D.key (.int e) = some (.inl e) := rfl
  simp only [dninD, dinP, e1, h]
  rw [any_kI]
theorem r_dget {l : Nat} {K : List Int} {ds : List D} {e : Int} {d : D} (h : S[l]? = some (.dic (kI K) ds)) (hl : lookK (.inl e) ((kI K).zip ds) = some d) : Run (dgetD (.ref l) (.int e)) S P ↔ P d S := by
  refine run_eq ?_
  have e1 : D.key (.int e) = some (.inl e) := rfl
  simp only [dgetD, e1, h]
  rw [hl]; rfl
theorem look_mem {e : Int} : ∀ {K : List Int} {ws : List D}, e ∈ K → ws.length = K.length → ∃ d ∈ ws, lookK (.inl e) ((kI K).zip ws) = some d
  | [], _, h, _ => by cases h
  | x :: r, [], _, h => by simp at h
  | x :: r, w :: ws, h, hl => by
    by_cases hx : x = e
    · subst hx
      exact ⟨w, List.mem_cons_self, by simp [lookK, kI]⟩
    · have hr : e ∈ r := by
        rcases List.mem_cons.mp h with z | z
        · exact absurd z.symm hx
        · exact z
      obtain ⟨d, h1, h2⟩ := look_mem (ws := ws) hr (by simpa using hl)
      refine ⟨d, List.mem_cons_of_mem _ h1, ?_⟩
      have hne : ¬ (Sum.inl x : Key) = Sum.inl e := fun z => hx (Sum.inl.inj z)
      simpa [lookK, kI, hne] using h2
@[simp] theorem run_shdM {m : Pm.Env → M (List (Key × D))} {env : Pm.Env} : Run (shdM m env) S P ↔ Run (m env) S fun b S1 => Run (shdD b) S1 P := run_bnd
theorem r_shd {b : List (Key × D)} (h : D.pures (b.map (·.2)) = true) : Run (shdD b) S P ↔ P (.ref S.length) (S ++ [O.ofP b]) := by
  refine run_eq ?_
  unfold shdD
  rw [if_pos h]
@[simp] theorem run_dsfM {m : Pm.Env → M (List (D × D))} {env : Pm.Env} {PB : List (Key × D) → List O → Prop} : Run (dsfM m env) S PB ↔ Run (m env) S fun b S1 => Run (dispP b) S1 PB := run_bnd
@[simp] theorem r_disp1 {c : Int} {v : D} {PB : List (Key × D) → List O → Prop} : Run (dispP [(.int c, v)]) S PB ↔ PB [(.inl c, v)] S := by
  refine run_eq ?_
  have e1 : D.keys ([(D.int c, v)].map (·.1)) = some [.inl c] := rfl
  simp only [dispP, e1]
  rw [if_pos ⟨by simp, by simp⟩]
  rfl
theorem run_pop0 {i j : Nat} {se : SEnv} {d : D} {ds : List D} {PF : Flo → List O → Prop} (h : se[i]? = some (some (.own (d :: ds)))) : Run (pop0M j i se) S PF ↔ PF (.nx ((se.set i (some (.own ds))).set j (some (.val d)))) S := by
  refine run_eq ?_
  unfold pop0M
  rw [h]; rfl
theorem e_lstQ {g : Bool → Bool} {a b : List Int} : Run (eqP g (.lst (a.map .int)) (.lst (b.map .int))) S P ↔ P (.bl (g (decide (a = b)))) S := by
  rw [eq_py (py_lst a) (py_lst b) (sh_lst a) (sh_lst b)]
  simp only [PyData.eqv, eqvAll_int]
theorem e_lst0 {a : List Int} : Run (neD (.lst (a.map .int)) (.lst [])) S P ↔ P (.bl (!decide (a = []))) S := e_lstQ (g := not) (b := [])
theorem e_frQ {g : Bool → Bool} {p q : Nat × Nat} : Run (eqP g (frD p) (frD q)) S P ↔ P (.bl (g (decide (p = q)))) S := by
  have := @e_lotQ S P g [(p.1 : Int), (p.2 : Int)] [(q.1 : Int), (q.2 : Int)]
  refine this.trans ?_
  have e : decide ([(p.1 : Int), (p.2 : Int)] = [(q.1 : Int), (q.2 : Int)]) = decide (p = q) := by
    obtain ⟨a, b⟩ := p
    obtain ⟨x, y⟩ := q
    simp
    rw [Bool.eq_iff_iff]
    simp
    omega
  rw [e]
theorem fcnt {p q : Int → Bool} {e : Int} : ∀ {l : List Int}, (∀ x ∈ l, q x = true → p x = true) → e ∈ l → p e = true → q e = false → (l.filter q).length + 1 ≤ (l.filter p).length
  | x :: r, h, he, hp, hq => by
    have hle : (r.filter q).length ≤ (r.filter p).length := by
      have : ∀ l : List Int, (∀ x ∈ l, q x = true → p x = true) → (l.filter q).length ≤ (l.filter p).length := fun l => by
        induction l with
        | nil => intro _; exact Nat.le_refl _
        | cons y l ih =>
          intro hl
          have i2 := ih fun z hz => hl z (List.mem_cons_of_mem _ hz)
          by_cases hy : q y = true
          · rw [List.filter_cons_of_pos hy, List.filter_cons_of_pos (hl y List.mem_cons_self hy)]; simp; exact i2
          · rw [List.filter_cons_of_neg hy]
            by_cases hy2 : p y = true
            · rw [List.filter_cons_of_pos hy2]; simp; omega
            · rw [List.filter_cons_of_neg hy2]; exact i2
      exact this r fun z hz => h z (List.mem_cons_of_mem _ hz)
    by_cases hx : q x = true
    · have hne : e ≠ x := fun z => by rw [z, hx] at hq; cases hq
      have hr : e ∈ r := by
        rcases List.mem_cons.mp he with z | z
        · exact absurd z hne
        · exact z
      have := fcnt (l := r) (fun z hz => h z (List.mem_cons_of_mem _ hz)) hr hp hq
      rw [List.filter_cons_of_pos hx, List.filter_cons_of_pos (h x List.mem_cons_self hx)]
      simp; omega
    · rw [List.filter_cons_of_neg hx]
      rcases List.mem_cons.mp he with z | z
      · rw [← z, List.filter_cons_of_pos hp]; simp; omega
      · have := fcnt (l := r) (fun z hz => h z (List.mem_cons_of_mem _ hz)) z hp hq
        by_cases hx2 : p x = true
        · rw [List.filter_cons_of_pos hx2]; simp; omega
        · rw [List.filter_cons_of_neg hx2]; exact this
def out (n : Nat) (K : List Int) : Nat := ((rng n).filter fun x => !decide (x ∈ K)).length
theorem out_add {n : Nat} {K : List Int} {e : Int} (he : e ∈ rng n) (hk : e ∉ K) : out n (K ++ [e]) + 1 ≤ out n K :=
  fcnt (fun x _ hx => by simp at hx ⊢; exact hx.1) he (by simpa using hk) (by simp)
/-- a tree's state -/
def tr (S : List O) (od : D) (K : List Int) (bs ws : List D) : List O := S ++ [.ins "Tree" ["back", "weights", "odd"] [.ref (S.length + 1), .ref (S.length + 2), od], .dic (kI K) bs, .dic (kI K) ws]
theorem tr0 {od : D} {K : List Int} {bs ws : List D} : (tr S od K bs ws)[S.length]? = some (.ins "Tree" ["back", "weights", "odd"] [.ref (S.length + 1), .ref (S.length + 2), od]) := by simp [tr]
theorem tr1 {od : D} {K : List Int} {bs ws : List D} : (tr S od K bs ws)[S.length + 1]? = some (.dic (kI K) bs) := by simp [tr]
theorem tr2 {od : D} {K : List Int} {bs ws : List D} : (tr S od K bs ws)[S.length + 2]? = some (.dic (kI K) ws) := by simp [tr]
theorem t_back {od : D} {K : List Int} {bs ws : List D} : Run (fldOf "Tree" "back" (.ref S.length)) (tr S od K bs ws) P ↔ P (.ref (S.length + 1)) (tr S od K bs ws) := r_fldR tr0 rfl
theorem t_weights {od : D} {K : List Int} {bs ws : List D} : Run (fldOf "Tree" "weights" (.ref S.length)) (tr S od K bs ws) P ↔ P (.ref (S.length + 2)) (tr S od K bs ws) := r_fldR tr0 rfl
theorem t_odd {od : D} {K : List Int} {bs ws : List D} : Run (fldOf "Tree" "odd" (.ref S.length)) (tr S od K bs ws) P ↔ P od (tr S od K bs ws) := r_fldR tr0 rfl
theorem t_setodd {od v : D} {K : List Int} {bs ws : List D} {PU : Unit → List O → Prop} (hv : v.pure = true) : Run (fstoD "Tree" "odd" (.ref S.length) v) (tr S od K bs ws) PU ↔ PU () (tr S v K bs ws) := by
  rw [r_fstoD tr0 hv (by decide)]
  have e : (putG "odd" v ((["back", "weights", "odd"] : List Str).zip [D.ref (S.length + 1), .ref (S.length + 2), od])) = ([("back", .ref (S.length + 1)), ("weights", .ref (S.length + 2)), ("odd", v)] : List (Str × D)) := rfl
  rw [e]
  simp [tr]
structure TJ (n : Nat) (ts : List (List Part)) (c : Int) (K q : List Int) (wf : List (Nat × Nat)) : Prop where
  nd : K.Nodup
  cm : c ∈ K
  cn : ∀ e ∈ K, Conn ts c e
  sb : ∀ e ∈ q, e ∈ K
  wl : wf.length = K.length
  wb : ∀ w ∈ wf, 0 < w.1 ∧ 0 < w.2 ∧ w.1 ≤ (2 ^ 14) ^ (K.length - 1) ∧ w.2 ≤ (2 ^ 14) ^ (K.length - 1)
  ct : K.length + out n K ≤ n
  qk : q.length ≤ K.length
theorem look_w {K : List Int} {wf : List (Nat × Nat)} {e : Int} (he : e ∈ K) (hl : wf.length = K.length) : ∃ w ∈ wf, lookK (.inl e) ((kI K).zip (wf.map frD)) = some (frD w) := by
  obtain ⟨d, h1, h2⟩ := look_mem (ws := wf.map frD) he (by rw [List.length_map]; exact hl)
  obtain ⟨w, hw, rfl⟩ := List.mem_map.mp h1
  exact ⟨w, hw, h2⟩
end Lw

set_option Elab.async false
set_option linter.all false
set_option maxRecDepth 100000
set_option maxHeartbeats 600000
/-! M52m: the tree holds all that stands together. -/
namespace Lw
open PySem L2 Pm
variable {S : List O} {P : D → List O → Prop}
/-- one tie's turn: the body of the inner loop -/
noncomputable abbrev tieB : MS := (seqM (setM 7 (valM (callF 2 C_times (consA (Pm.bin dgetD (fldM "Tree" "weights" (getv 0)) (getv 4)) (consA (callF 4 C_quotient (consA (getv 1) (consA (getv 5) (consA (getv 4) (consA (getv 6) nilM))))) nilM)))))
    (ifM (tst (Pm.bin dninD (getv 6) (fldM "Tree" "back" (getv 0)))) (seqM (dputM (tupM (consA (getv 4) (consA (getv 5) nilM))) (fldM "Tree" "back" (getv 0)) (getv 6))
    (seqM (dputM (getv 7) (fldM "Tree" "weights" (getv 0)) (getv 6))
    (appM 3 (getv 6)))) (ifM (andT (tst (Pm.bin isND (fldM "Tree" "odd" (getv 0)) (cM .non))) (tst (Pm.bin neD (getv 7) (Pm.bin dgetD (fldM "Tree" "weights" (getv 0)) (getv 6))))) (fstoM "Tree" "odd" (tupM (consA (getv 4) (consA (getv 5) (consA (getv 6) nilM)))) (getv 0)) nopM)))
theorem r_tieB {n j : Nat} {ts : List (List Part)} (hk : HallOk n ts) {c x e : Int} (hc : c ∈ rng n) {t : List Part} (ht : ts[j]? = some t) {K q : List Int} {bs : List D} {wf : List (Nat × Nat)} {od : D} (J : TJ n ts c K q wf) (hb : bs.length = K.length) (hx : x ∈ K) (he : e ∈ seenL t x) {o7 : Option Slot}
    {PF : Flo → List O → Prop} (k : ∀ (K' q' : List Int) (bs' : List D) (wf' : List (Nat × Nat)) (od' : D) (o7' : Option Slot), TJ n ts c K' q' wf' → bs'.length = K'.length → (∀ y ∈ K, y ∈ K') → (∀ y ∈ K', y ∈ K ∨ y ∈ q') → (∀ y ∈ q, y ∈ q') → e ∈ K' → 2 * out n K' + q'.length ≤ 2 * out n K + q.length →
      PF (.nx [some (.val (.ref S.length)), some (.val (hallD n ts)), some (.val (.int c)), some (.own (q'.map .int)), some (.val (.int x)), some (.val (.int j)), some (.val (.int e)), o7']) (tr S od' K' bs' (wf'.map frD))) :
    Run (tieB [some (.val (.ref S.length)), some (.val (hallD n ts)), some (.val (.int c)), some (.own (q.map .int)), some (.val (.int x)), some (.val (.int j)), some (.val (.int e)), o7]) (tr S od K bs (wf.map frD)) PF := by
  have hbb := slb
  have hn := hk.hi
  have tok := hk.tl _ (List.mem_of_getElem? ht)
  have hxr : x ∈ rng n := (J.cn x hx).rng hk hc
  have her : e ∈ rng n := cell_rng tok hxr he
  obtain ⟨l, ws, ck⟩ := cell_ws tok hxr
  have hel : e ∈ l := by unfold seenL at he; rw [ck.eq] at he; exact he
  have hxl : x ∈ l := by have := cell_mem tok hxr; unfold seenL at this; rw [ck.eq] at this; exact this
  have pe := ck.wt.pos _ (wAt_mem ck.len hel)
  have px := ck.wt.pos _ (wAt_mem ck.len hxl)
  have le := mem_le_sum (wAt_mem ck.len hel)
  have lx := mem_le_sum (wAt_mem ck.len hxl)
  have hT2 := ck.wt.sm
  have hKl : K.length ≤ 6 := by have := J.ct; omega
  have hK0 : 0 < K.length := List.length_pos_of_mem hx
  obtain ⟨w, hw, hlook⟩ := look_w hx J.wl
  obtain ⟨w1, w2, w3, w4⟩ := J.wb w hw
  have hp84 : (2 ^ 14) ^ (K.length - 1) < 2 ^ 84 := Nat.lt_of_le_of_lt (Nat.pow_le_pow_right (by omega) (show K.length - 1 ≤ 5 by omega)) (by decide)
  unfold tieB
  simp
  refine run_evS ?_
  simp [t_weights, r_dget tr2 hlook, r_quotient ht tok hxr ck hel]
  generalize wAt l ws e = a at pe le ⊢
  generalize wAt l ws x = b at px lx ⊢
  have q1 := low_pos1 (T := b) pe
  have q2 := low_pos (w := a) px
  have q3 : (low a b).1 ≤ a := Nat.div_le_self _ _
  have q4 := low_le (w := a) (T := b)
  generalize low a b = g at q1 q2 q3 q4 ⊢
  rw [r_times w2 q2 (by omega) (by omega) (by omega)]
  have m1 : 0 < w.1 * g.1 := Nat.mul_pos w1 q1
  have m2 : 0 < w.2 * g.2 := Nat.mul_pos w2 q2
  have v1 := low_pos1 (T := w.2 * g.2) m1
  have v2 := low_pos (w := w.1 * g.1) m2
  have v3 : (low (w.1 * g.1) (w.2 * g.2)).1 ≤ (2 ^ 14) ^ K.length := by
    refine Nat.le_trans (Nat.div_le_self _ _) ?_
    have : (2 ^ 14) ^ K.length = (2 ^ 14) ^ (K.length - 1) * 2 ^ 14 := by rw [← Nat.pow_succ]; congr 1; omega
    rw [this]
    exact Nat.mul_le_mul w3 (by omega)
  have v4 : (low (w.1 * g.1) (w.2 * g.2)).2 ≤ (2 ^ 14) ^ K.length := by
    refine Nat.le_trans (Nat.div_le_self _ _) ?_
    have : (2 ^ 14) ^ K.length = (2 ^ 14) ^ (K.length - 1) * 2 ^ 14 := by rw [← Nat.pow_succ]; congr 1; omega
    rw [this]
    exact Nat.mul_le_mul w4 (by omega)
  generalize low (w.1 * g.1) (w.2 * g.2) = v at v1 v2 v3 v4 ⊢
  refine ⟨rfl, ?_⟩
  simp [t_back, r_dnin tr1]
  by_cases hek : e ∈ K
  · simp [hek, t_odd]
    obtain ⟨w', hw', hlook'⟩ := look_w hek J.wl
    simp [t_weights, r_dget tr2 hlook']
    have ne : ∀ {PB : D → List O → Prop} {S1 : List O}, Run (neD (frD v) (frD w')) S1 PB ↔ PB (.bl (!decide (v = w'))) S1 := e_frQ (g := not)
    rw [ne]
    have done : ∀ od', PF (.nx [some (.val (.ref S.length)), some (.val (hallD n ts)), some (.val (.int c)), some (.own (q.map .int)), some (.val (.int x)), some (.val (.int j)), some (.val (.int e)), some (.val (frD v))]) (tr S od' K bs (wf.map frD)) :=
      fun od' => k K q bs wf od' _ J hb (fun y h => h) (fun y h => .inl h) (fun y h => h) hek (Nat.le_refl _)
    have sto : Run (evS (tupM (consA (getv 4) (consA (getv 5) (consA (getv 6) nilM)))) [some (.val (.ref S.length)), some (.val (hallD n ts)), some (.val (.int c)), some (.own (q.map .int)), some (.val (.int x)), some (.val (.int j)), some (.val (.int e)), some (.val (frD v))]) (tr S od K bs (wf.map frD)) fun d S1 => Run (fstoD "Tree" "odd" (.ref S.length) d) S1 fun _ S3 => PF (.nx [some (.val (.ref S.length)), some (.val (hallD n ts)), some (.val (.int c)), some (.own (q.map .int)), some (.val (.int x)), some (.val (.int j)), some (.val (.int e)), some (.val (frD v))]) S3 := by
      refine run_evS ?_
      simp
      refine ⟨rfl, ?_⟩
      rw [t_setodd rfl]
      exact done _
    by_cases ho : od = .non
    · subst ho
      refine .inr ⟨rfl, ?_⟩
      by_cases hvw : v = w'
      · exact .inl ⟨by simp [hvw], done _⟩
      · exact .inr ⟨by simp [hvw], sto⟩
    · refine .inl ⟨?_, done od⟩
      cases od <;> first | exact absurd rfl ho | rfl
  · simp [hek]
    refine run_evS ?_
    simp [t_back]
    refine ⟨rfl, ?_⟩
    rw [r_dput tr1 rfl (by rw [List.length_map]; omega)]
    rw [put_new hb hek]
    simp only [tr, List.set_append_right, Nat.le_add_right, Nat.add_sub_cancel_left, List.set_cons_succ, List.set_cons_zero]
    refine run_evS ?_
    simp
    refine ⟨rfl, ?_⟩
    rw [r_fldR (ns := ["back", "weights", "odd"]) (ds := [.ref (S.length + 1), .ref (S.length + 2), od]) (by simp) rfl]
    rw [r_dput (ks := kI K) (ds := wf.map frD) (by simp) rfl (by rw [List.length_map]; omega)]
    rw [put_new (by rw [List.length_map]; exact J.wl) hek]
    simp only [List.set_append_right, Nat.le_add_right, Nat.add_sub_cancel_left, List.set_cons_succ, List.set_cons_zero]
    refine run_evS ?_
    simp
    have hqn : q.length ≤ 1000 := by have := J.qk; omega
    refine ⟨rfl, by omega, ?_⟩
    have hout := out_add her hek
    have hfin := k (K ++ [e]) (q ++ [e]) (bs ++ [.tup [.int x, .int j]]) (wf ++ [v]) od (some (.val (frD v))) ⟨?_, List.mem_append_left _ J.cm, ?_, ?_, ?_, ?_, ?_, ?_⟩ (by simp [hb]) (fun y h => List.mem_append_left _ h) (fun y h => by
      rcases List.mem_append.mp h with h | h
      · exact .inl h
      · exact .inr (List.mem_append_right _ h)) (fun y h => List.mem_append_left _ h) (by simp) (by rw [List.length_append, List.length_singleton]; omega)
    · simpa [tr, kI] using hfin
    · refine List.nodup_append.mpr ⟨J.nd, by simp, fun a ha b hb hab => ?_⟩
      simp at hb
      subst hb
      exact hek (hab ▸ ha)
    · intro y hy
      rcases List.mem_append.mp hy with h | h
      · exact J.cn y h
      · simp at h; subst h
        exact .step (J.cn x hx) (List.mem_of_getElem? ht) he
    · intro y hy
      rcases List.mem_append.mp hy with h | h
      · exact List.mem_append_left _ (J.sb y h)
      · exact List.mem_append_right _ h
    · rw [List.length_append, List.length_append, J.wl]; rfl
    · intro y hy
      have hp : (2 ^ 14) ^ (K.length - 1) ≤ (2 ^ 14) ^ K.length := Nat.pow_le_pow_right (by omega) (by omega)
      have el : (K ++ [e]).length - 1 = K.length := by simp
      rw [el]
      rcases List.mem_append.mp hy with h | h
      · obtain ⟨b1, b2, b3, b4⟩ := J.wb y h
        exact ⟨b1, b2, by omega, by omega⟩
      · simp at h; subst h
        exact ⟨v1, v2, v3, v4⟩
    · have := J.ct
      rw [List.length_append, List.length_singleton]; omega
    · have := J.qk
      rw [List.length_append, List.length_append, List.length_singleton]; omega
theorem r_tree {n : Nat} {ts : List (List Part)} (hk : HallOk n ts) {c : Int} (hc : c ∈ rng n) (k : ∀ (K : List Int) (bs ws : List D) (od : D), K.Nodup → (∀ e, e ∈ K ↔ Conn ts c e) → P .non (tr S od K bs ws)) :
    Run (C_Tree_init [.ref S.length, hallD n ts, .int c]) (S ++ [.ins "Tree" [] []]) P := by
  have hbb := slb
  have hn := hk.hi
  unfold C_Tree_init m_Tree_init
  simp only [run_body, env0, List.map_cons, List.map_nil, List.length_cons, List.length_nil]
  simp
  rw [run_evS_same rfl]
  simp
  rw [r_shd rfl]
  rw [r_fstoD (ns := []) (ds := []) (by simp) rfl (by decide)]
  simp [putG]
  rw [run_evS_same rfl]
  simp
  rw [r_shd rfl]
  rw [r_fstoD (ns := ["back"]) (ds := [.ref (S.length + 1)]) (by simp) rfl (by decide)]
  simp [putG]
  rw [if_neg (by decide), run_evS_same rfl]
  simp
  rw [r_fstoD (ns := ["back", "weights"]) (ds := [.ref (S.length + 1), .ref (S.length + 2)]) (by simp) rfl (by decide)]
  have ep : putG (Str.ofString "odd") D.non ((["back", "weights"] : List Str).zip [D.ref (S.length + 1), D.ref (S.length + 2)]) = ([("back", .ref (S.length + 1)), ("weights", .ref (S.length + 2)), ("odd", .non)] : List (Str × D)) := rfl
  rw [ep]
  simp
  refine run_evL ?_
  simp [D.pures, D.pure]
  have e0 : S ++ [O.ins (Str.ofString "Tree") [Str.ofString "back", Str.ofString "weights", Str.ofString "odd"] [D.ref (S.length + 1), D.ref (S.length + 2), D.non], O.ofP [(Sum.inl c, D.non)], O.ofP [(Sum.inl c, D.tup [D.int 1, D.int 1])]] = tr S .non [c] [.non] ([((1, 1) : Nat × Nat)].map frD) := rfl
  rw [e0]
  have hout : 1 + out n [c] ≤ n := by
    have h1 : ((rng n).filter fun x => !decide (x ∈ [c])).length + 1 ≤ ((rng n).filter fun _ => true).length := fcnt (fun _ _ _ => rfl) hc rfl (by simp)
    rw [List.filter_eq_self.mpr (fun _ _ => rfl), rng_len] at h1
    unfold out; omega
  refine run_whM (fun m e S1 => ∃ (K q : List Int) (bs : List D) (wf : List (Nat × Nat)) (od : D) (o4 o5 o6 o7 : Option Slot), S1 = tr S od K bs (wf.map frD) ∧ TJ n ts c K q wf ∧ bs.length = K.length ∧ (∀ x ∈ K, x ∉ q → ∀ t ∈ ts, ∀ f ∈ seenL t x, f ∈ K) ∧ m = 2 * out n K + q.length ∧
    e = [some (.val (.ref S.length)), some (.val (hallD n ts)), some (.val (.int c)), some (.own (q.map .int)), o4, o5, o6, o7]) ?_ _ _ _ ⟨[c], [c], [.non], [(1, 1)], .non, none, none, none, none, rfl, ⟨by simp, by simp, (by intro e he; simp at he; subst he; exact .refl), (fun e he => he), rfl, (by intro w hw; simp at hw; subst hw; simp), hout, Nat.le_refl _⟩, rfl, (by intro x hx hq; exact absurd hx hq), rfl, rfl⟩
  rintro m e S1 ⟨K, q, bs, wf, od, o4, o5, o6, o7, rfl, J, hb, cl, rfl, rfl⟩
  cases q with
  | nil =>
    simp
    have h00 : ∀ {PB : D → List O → Prop} {S1 : List O}, Run (neD (D.lst []) (D.lst [])) S1 PB ↔ PB (.bl (!decide (([] : List Int) = []))) S1 := e_lst0 (a := [])
    rw [h00]
    simp
    refine k K bs (wf.map frD) od J.nd fun e => ⟨J.cn e, fun h => h.closed J.cm fun x hx t ht f hf => cl x hx (by simp) t ht f hf⟩
  | cons x q =>
    have hx : x ∈ K := J.sb x List.mem_cons_self
    have hxr : x ∈ rng n := (J.cn x hx).rng hk hc
    simp
    have := @e_lst0 (tr S od K bs (wf.map frD))
    rw [show (D.int x :: q.map D.int) = (x :: q).map D.int from rfl]
    rw [e_lst0 (a := x :: q)]
    simp
    rw [run_pop0 (d := .int x) (ds := q.map .int) rfl]
    simp [r_tied_with hk hxr]
    have J0 : TJ n ts c K q wf := ⟨J.nd, J.cm, J.cn, fun e he => J.sb e (List.mem_cons_of_mem _ he), J.wl, J.wb, J.ct, by have := J.qk; rw [List.length_cons] at this; omega⟩
    refine run_forL (fun rest e S2 => ∃ (r : List (Int × Int)) (K' q' : List Int) (bs' : List D) (wf' : List (Nat × Nat)) (od' : D) (o5 o6 o7 : Option Slot), rest = r.map tpD ∧ (∀ p ∈ r, p ∈ tie ts x) ∧ S2 = tr S od' K' bs' (wf'.map frD) ∧ TJ n ts c K' q' wf' ∧ bs'.length = K'.length ∧ x ∈ K' ∧
      (∀ y ∈ K', y ∉ q' → y ≠ x → ∀ t ∈ ts, ∀ f ∈ seenL t y, f ∈ K') ∧ (∀ p ∈ tie ts x, p.2 ∈ K' ∨ p ∈ r) ∧ 2 * out n K' + q'.length ≤ 2 * out n K + q.length ∧
      e = [some (.val (.ref S.length)), some (.val (hallD n ts)), some (.val (.int c)), some (.own (q'.map .int)), some (.val (.int x)), o5, o6, o7]) _
      ⟨tie ts x, K, q, bs, wf, od, o5, o6, o7, rfl, fun p h => h, rfl, J0, hb, hx, fun y hy hq hne => cl y hy (fun z => by rcases List.mem_cons.mp z with z | z; exact hne z; exact hq z), fun p h => .inr h, Nat.le_refl _, rfl⟩ ?_ ?_
    · rintro d r e S2 ⟨r2, K', q', bs', wf', od', o5, o6, o7, hr, hm, rfl, J', hb', hx', cl', ht', hms, rfl⟩
      cases r2 with
      | nil => cases hr
      | cons p r2 =>
        rw [List.map_cons] at hr
        injection hr with h1 h2
        subst h1 h2
        obtain ⟨p1, p2⟩ := p
        obtain ⟨j, t, h1, h2, h3, h4⟩ := tie_mem.mp (hm _ List.mem_cons_self)
        simp only at h1 h3 h4
        subst h1
        refine ⟨_, rfl, ?_⟩
        refine r_tieB hk hc h2 J' hb' hx' h3 fun K2 q2 bs2 wf2 od2 o72 J2 hb2 s1 s2 s3 he2 hm2 => ?_
        refine ⟨r2, K2, q2, bs2, wf2, od2, _, _, _, rfl, fun p hp => hm p (List.mem_cons_of_mem _ hp), rfl, J2, hb2, s1 x hx', fun y hy hq hne t ht f hf => ?_, fun p hp => ?_, by omega, rfl⟩
        · rcases s2 y hy with h | h
          · exact s1 f (cl' y h (fun z => hq (s3 y z)) hne t ht f hf)
          · exact absurd h hq
        · rcases ht' p hp with h | h
          · exact .inl (s1 _ h)
          · rcases List.mem_cons.mp h with h | h
            · subst h; exact .inl he2
            · exact .inr h
    · rintro e S2 ⟨r2, K', q', bs', wf', od', o5, o6, o7, hr, hm, rfl, J', hb', hx', cl', ht', hms, rfl⟩
      cases r2 with
      | cons c r2 => cases hr
      | nil =>
        refine ⟨2 * out n K' + q'.length, _, rfl, by omega, K', q', bs', wf', ⟨od', rfl⟩, J', hb', fun y hy hq t ht f hf => ?_, rfl, _, _, _, _, rfl⟩
        by_cases hyx : y = x
        · subst hyx
          by_cases hfx : f = y
          · rw [hfx]; exact hx'
          · obtain ⟨j, hj⟩ := List.mem_iff_getElem?.mp ht
            rcases ht' ((j : Int), f) (tie_mem.mpr ⟨j, t, rfl, hj, hf, hfx⟩) with h | h
            · exact h
            · cases h
        · exact cl' y hy hq hyx t ht f hf
end Lw

set_option Elab.async false
set_option linter.all false
set_option maxRecDepth 100000
set_option maxHeartbeats 600000
/-! M52n: the pieces. -/
namespace Lw
open PySem L2 Pm
variable {S : List O} {P : D → List O → Prop}
/-- what stands together with c -/
noncomputable def cmp (n : Nat) (ts : List (List Part)) (c : Int) : List Int := open Classical in (rng n).filter fun e => decide (Conn ts c e)
theorem cmp_mem {n : Nat} {ts : List (List Part)} {c e : Int} : e ∈ cmp n ts c ↔ e ∈ rng n ∧ Conn ts c e := by
  unfold cmp; rw [List.mem_filter]; simp
theorem cmp_sub {n : Nat} {ts : List (List Part)} {c : Int} : (cmp n ts c).Sublist (rng n) := by unfold cmp; exact List.filter_sublist
theorem rng_nodup (n : Nat) : (rng n).Nodup := (rng_sorted n).imp fun h => by omega
theorem cmp_perm {n : Nat} {ts : List (List Part)} (hk : HallOk n ts) {c : Int} (hc : c ∈ rng n) {K : List Int} (h1 : K.Nodup) (h2 : ∀ e, e ∈ K ↔ Conn ts c e) : (cmp n ts c).Perm K :=
  (List.perm_ext_iff_of_nodup ((rng_nodup n).sublist cmp_sub) h1).mpr fun e => by
    rw [cmp_mem, h2]
    exact ⟨fun h => h.2, fun h => ⟨h.rng hk hc, h⟩⟩
theorem cmp_sort {n : Nat} {ts : List (List Part)} (hk : HallOk n ts) {c : Int} (hc : c ∈ rng n) {K : List Int} (h1 : K.Nodup) (h2 : ∀ e, e ∈ K ↔ Conn ts c e) : sortI K = cmp n ts c :=
  (sortI_eq (cmp_perm hk hc h1 h2) (((rng_sorted n).sublist cmp_sub).imp fun h => by omega)).symm
theorem cmp_len {n : Nat} {ts : List (List Part)} {c : Int} : (cmp n ts c).length ≤ n := by
  have := (cmp_sub (n := n) (ts := ts) (c := c)).length_le
  rw [rng_len] at this; exact this
def inF (F : List (List Int)) (c : Int) : Bool := F.any fun p => decide (c ∈ p)
noncomputable def stepF (n : Nat) (ts : List (List Part)) (F : List (List Int)) (c : Int) : List (List Int) := if inF F c = true then F else F ++ [cmp n ts c]
noncomputable def pcs (n : Nat) (ts : List (List Part)) : List (List Int) := (rng n).foldl (stepF n ts) []
theorem stepF_len {n : Nat} {ts : List (List Part)} {F : List (List Int)} {c : Int} : (stepF n ts F c).length ≤ F.length + 1 := by
  unfold stepF; split <;> simp
theorem fold_len {n : Nat} {ts : List (List Part)} : ∀ (l : List Int) (F : List (List Int)), (l.foldl (stepF n ts) F).length ≤ F.length + l.length
  | [], F => by simp
  | c :: r, F => by
    have h1 := fold_len (n := n) (ts := ts) r (stepF n ts F c)
    have h2 := stepF_len (n := n) (ts := ts) (F := F) (c := c)
    rw [List.foldl_cons, List.length_cons]; omega
theorem fold_of {n : Nat} {ts : List (List Part)} {Q : List Int → Prop} (h : ∀ c ∈ rng n, Q (cmp n ts c)) : ∀ (l : List Int) (F : List (List Int)), (∀ c ∈ l, c ∈ rng n) → (∀ p ∈ F, Q p) → ∀ p ∈ l.foldl (stepF n ts) F, Q p
  | [], F, _, hF => hF
  | c :: r, F, hl, hF => by
    rw [List.foldl_cons]
    refine fold_of h r _ (fun x hx => hl x (List.mem_cons_of_mem _ hx)) fun p hp => ?_
    unfold stepF at hp
    split at hp
    · exact hF p hp
    · rcases List.mem_append.mp hp with z | z
      · exact hF p z
      · simp at z; subst z; exact h c (hl c List.mem_cons_self)
theorem pcs_of {n : Nat} {ts : List (List Part)} {Q : List Int → Prop} (h : ∀ c ∈ rng n, Q (cmp n ts c)) : ∀ p ∈ pcs n ts, Q p := fold_of h _ _ (fun c h => h) (by intro p hp; cases hp)
/-! states that grow -/
def Ext (S S' : List O) : Prop := ∃ T, S' = S ++ T
theorem Ext.refl : Ext S S := ⟨[], by simp⟩
theorem Ext.trans {A B C : List O} (h : Ext A B) (k : Ext B C) : Ext A C := by
  obtain ⟨T, rfl⟩ := h
  obtain ⟨U, rfl⟩ := k
  exact ⟨T ++ U, by simp⟩
theorem PoolOk.ext {l : Nat} {S S' : List O} (h : PoolOk l S) (e : Ext S S') : PoolOk l S' := by
  obtain ⟨T, rfl⟩ := e
  obtain ⟨ht, a, b, c, hp⟩ := h
  refine ⟨?_, a, b, c, ?_⟩
  · unfold hasTab at ht ⊢
    rw [List.any_append, ht]; rfl
  · rw [List.getElem?_append_left (List.getElem?_eq_some_iff.mp hp).1]; exact hp
theorem keysI_kI : ∀ K : List Int, keysI (kI K) = some K
  | [] => rfl
  | x :: r => by
    have := keysI_kI r
    unfold kI at this ⊢
    rw [List.map_cons, keysI, this]; rfl
theorem r_sortd {l : Nat} {K : List Int} {ds : List D} (h : S[l]? = some (.dic (kI K) ds)) (hl : K.length < 64) : Run (sortdD [.ref l]) S P ↔ P (.lst ((sortI K).map .int)) S := by
  refine run_eq ?_
  simp only [sortdD, h, keysI_kI]
  rw [if_pos hl]
theorem r_mkTree {n : Nat} {ts : List (List Part)} (hk : HallOk n ts) {c : Int} (hc : c ∈ rng n) (k : ∀ (K : List Int) (bs ws : List D) (od : D), K.Nodup → (∀ e, e ∈ K ↔ Conn ts c e) → P (.ref S.length) (tr S od K bs ws)) : Run (mkrD "Tree" 3 C_Tree_init [hallD n ts, .int c]) S P := by
  obtain ⟨d, S', e, rfl, K, bs, ws, od, rfl, h1, h2⟩ := r_tree (S := S) (P := fun d S' => d = .non ∧ ∃ K bs ws od, S' = tr S od K bs ws ∧ K.Nodup ∧ (∀ e, e ∈ K ↔ Conn ts c e)) hk hc fun K bs ws od h1 h2 => ⟨rfl, K, bs, ws, od, rfl, h1, h2⟩
  refine ⟨.ref S.length, _, ?_, k K bs ws od h1 h2⟩
  unfold mkrD
  rw [if_pos (show [hallD n ts, D.int c].length + 1 = 3 from rfl), e]
@[simp] theorem run_mkrM {x : Str} {n : Nat} {C : List D → M D} {m : Pm.Env → M (List D)} {env : Pm.Env} : Run (mkrM x n C m env) S P ↔ Run (m env) S fun ds S1 => Run (mkrD x n C ds) S1 P := run_bnd
/-! keys -/
theorem put_keys {b : List (Key × D)} {K : List Int} {e : Int} {v : D} (h : b.map (·.1) = kI K) : ∃ K', (putP b (.inl e) v).map (·.1) = kI K' ∧ (∀ x, x ∈ K' ↔ x ∈ K ∨ x = e) ∧ K'.length ≤ K.length + 1 := by
  have ha : (b.any fun kv => decide (kv.1 = Sum.inl e)) = decide (e ∈ K) := by
    have : (b.any fun kv => decide (kv.1 = Sum.inl e)) = ((b.map (·.1)).any fun q => decide (q = Sum.inl e)) := by rw [List.any_map]; rfl
    rw [this, h, any_kI]
  unfold putP
  rw [ha]
  by_cases he : e ∈ K
  · rw [decide_eq_true he, if_pos rfl]
    refine ⟨K, ?_, fun x => ⟨.inl, fun z => z.elim id fun z => z ▸ he⟩, by omega⟩
    rw [List.map_map, ← h]
    refine List.map_congr_left fun kv _ => ?_
    show (if kv.1 = Sum.inl e then (kv.1, v) else kv).1 = kv.1
    split <;> rfl
  · rw [decide_eq_false he, if_neg Bool.false_ne_true]
    exact ⟨K ++ [e], by rw [List.map_append, h]; simp [kI], fun x => by simp, by simp⟩
theorem merge_keys : ∀ {c : List (Key × D)} {L : List Int} {b : List (Key × D)} {K : List Int}, c.map (·.1) = kI L → b.map (·.1) = kI K → ∃ K', (mergeP b c).map (·.1) = kI K' ∧ (∀ x, x ∈ K' ↔ x ∈ K ∨ x ∈ L) ∧ K'.length ≤ K.length + L.length
  | [], [], b, K, _, h => ⟨K, h, fun x => by simp, by simp⟩
  | [], _ :: _, _, _, h, _ => by simp at h
  | _ :: _, [], _, _, h, _ => by simp at h
  | y :: c, e :: L, b, K, hc, hb => by
    obtain ⟨k, v⟩ := y
    simp only [kI, List.map_cons, List.cons.injEq] at hc
    obtain ⟨rfl, hc2⟩ := hc
    obtain ⟨K1, h1, h2, h3⟩ := put_keys (e := e) (v := v) hb
    obtain ⟨K2, h4, h5, h6⟩ := merge_keys (b := putP b (.inl e) v) hc2 h1
    refine ⟨K2, h4, fun x => ?_, by rw [List.length_cons]; omega⟩
    rw [h5, h2, List.mem_cons, or_assoc]
theorem dc_keys {set : SetF} {w : Pm.Env} {i : Nat} {S : List O} {PB : List (Key × D) → List O → Prop} (hs : ∀ e : Int, ∃ w', set (.int e) w = some w' ∧ w'[i]?.join = some (.int e)) : ∀ (l : List Int) (ac : List (Key × D)) (K : List Int), ac.map (·.1) = kI K → D.pures (ac.map (·.2)) = true →
    (∀ (b : List (Key × D)) (K' : List Int), b.map (·.1) = kI K' → (∀ x, x ∈ K' ↔ x ∈ K ∨ x ∈ l) → K'.length ≤ K.length + l.length → D.pures (b.map (·.2)) = true → PB b S) → Run (dcLoop set yesM (getv i) (cM (.bl true)) w (l.map .int) ac) S PB
  | [], ac, K, h1, h2, k => ⟨ac, S, rfl, k ac K h1 (fun x => by simp) (by simp) h2⟩
  | e :: l, ac, K, h1, h2, k => by
    obtain ⟨w', e1, e2⟩ := hs e
    rw [List.map_cons]
    unfold dcLoop
    rw [e1]
    obtain ⟨K1, h3, h4, h5⟩ := put_keys (e := e) (v := .bl true) h1
    have ih := dc_keys (PB := PB) hs l (putP ac (.inl e) (.bl true)) K1 h3 (pures_putP rfl h2) fun b K' q1 q2 q3 q4 => k b K' q1 (fun x => by rw [q2, h4, List.mem_cons, or_assoc]) (by rw [List.length_cons]; omega) q4
    simp [yesM, e2, cM]
    exact ih
@[simp] theorem run_updM {mo : Pm.Env → M D} {mf : Pm.Env → M (List (Key × D))} {env : Pm.Env} : Run (updM mo mf env) S P ↔ Run (mo env) S fun o S1 => Run (isdD o) S1 fun _ S2 => Run (mf env) S2 fun b S3 => Run (updD o b) S3 P := by
  unfold updM; simp only [run_bnd]
theorem r_isd {l : Nat} {ks : List Key} {ds : List D} {PU : Unit → List O → Prop} (h : S[l]? = some (.dic ks ds)) : Run (isdD (.ref l)) S PU ↔ PU () S := by
  refine run_eq ?_
  simp only [isdD, h]
theorem r_updD {l : Nat} {ks : List Key} {ds : List D} {b : List (Key × D)} (h : S[l]? = some (.dic ks ds)) (hp : D.pures (b.map (·.2)) = true) (hz : ks.length + b.length ≤ sizeLine) : Run (updD (.ref l) b) S P ↔ P .non (S.set l (O.ofP (mergeP (ks.zip ds) b))) := by
  refine run_eq ?_
  simp only [updD, h]
  rw [if_pos ⟨hp, hz⟩]
@[simp] theorem run_dcM {vs : List Nat} {mi : Pm.Env → M (List D)} {set : SetF} {mt : Pm.Env → M Bool} {mk mv : Pm.Env → M D} {env : Pm.Env} {PB : List (Key × D) → List O → Prop} : Run (dcM vs mi set mt mk mv env) S PB ↔ Run (mi env) S fun ds S1 => ds.length < sizeLine ∧ Run (dcLoop set mt mk mv (wipeE env vs) ds []) S1 PB := by
  unfold dcM; simp only [run_bnd, run_ite, run_stuck]; simp
end Lw

set_option Elab.async false
set_option linter.all false
set_option maxRecDepth 100000
set_option maxHeartbeats 600000
/-! M52o: the pieces told; what is known for ever. -/
namespace Lw
open PySem L2 Pm
variable {S : List O} {P : D → List O → Prop}
theorem inF_mem {F : List (List Int)} {c : Int} : inF F c = true ↔ ∃ p ∈ F, c ∈ p := by unfold inF; rw [List.any_eq_true]; simp
theorem stepF_in {n : Nat} {ts : List (List Part)} {F : List (List Int)} {c : Int} (h : inF F c = true) : stepF n ts F c = F := if_pos h
theorem stepF_out {n : Nat} {ts : List (List Part)} {F : List (List Int)} {c : Int} (h : ¬ inF F c = true) : stepF n ts F c = F ++ [cmp n ts c] := if_neg h
theorem r_pieces_by {n : Nat} {ts : List (List Part)} (hk : HallOk n ts) (k : ∀ S', Ext S S' → P (.tup ((pcs n ts).map lotD)) S') : Run (C_pieces_by [hallD n ts]) S P := by
  have hb := slb
  have hn := hk.hi
  unfold C_pieces_by m_pieces_by
  simp only [run_body, env0, List.map_cons, List.map_nil, List.length_cons, List.length_nil]
  simp
  refine run_evL ?_
  simp [D.pures]
  refine run_evS ?_
  simp [newM]
  rw [r_shd rfl]
  refine ⟨rfl, ?_⟩
  simp [setL, r_cases_of (show n ≤ 100 by omega)]
  have e0 : S ++ [O.ofP []] = S ++ [O.dic (kI []) []] := rfl
  rw [e0]
  refine run_forL (fun rest e S1 => ∃ (dn r : List Int) (K : List Int) (ds : List D) (T : List O) (o3 o4 : Option Slot), rest = r.map .int ∧ rng n = dn ++ r ∧ S1 = S ++ O.dic (kI K) ds :: T ∧ ds.length = K.length ∧ D.pures ds = true ∧ K.length ≤ 6 * dn.length ∧ (∀ x, x ∈ K ↔ inF (dn.foldl (stepF n ts) []) x = true) ∧
    e = [some (.val (hallD n ts)), some (.own ((dn.foldl (stepF n ts) []).map lotD)), some (.val (.ref S.length)), o3, o4, none]) _ ⟨[], rng n, [], [], [], none, none, rfl, rfl, rfl, rfl, rfl, by simp, fun x => by simp [inF], rfl⟩ ?_ ?_
  · rintro d r e S1 ⟨dn, r2, K, ds, T, o3, o4, hr, hd, rfl, hdl, hpd, hKl, hK, rfl⟩
    cases r2 with
    | nil => cases hr
    | cons c r2 =>
      rw [List.map_cons] at hr
      injection hr with h1 h2
      subst h1 h2
      refine ⟨_, rfl, ?_⟩
      have hc : c ∈ rng n := by rw [hd]; simp
      have hdn := rng_app hd
      have g1 : (S ++ O.dic (kI K) ds :: T)[S.length]? = some (.dic (kI K) ds) := by simp
      have hfl : (dn.foldl (stepF n ts) []).length ≤ dn.length := by simpa using fold_len (n := n) (ts := ts) dn []
      simp [setNS]
      rw [r_dnin g1]
      by_cases hcK : c ∈ K
      · simp [hcK]
        have hin := (hK c).mp hcK
        refine ⟨dn ++ [c], r2, rfl, by rw [hd]; simp, K, ds, ⟨rfl, rfl⟩, hdl, hpd, by rw [List.length_append]; simp; omega, ?_⟩
        rw [List.foldl_append, List.foldl_cons, List.foldl_nil, stepF_in hin]
        exact ⟨hK, rfl⟩
      · simp [hcK]
        have hout : ¬ inF (dn.foldl (stepF n ts) []) c = true := fun z => hcK ((hK c).mpr z)
        refine run_evS ?_
        simp
        refine r_mkTree hk hc fun K2 bs ws od q1 q2 => ?_
        have hpl := (cmp_perm hk hc q1 q2).length_eq
        have hcl := cmp_len (n := n) (ts := ts) (c := c)
        rw [t_back, r_sortd tr1 (by omega), cmp_sort hk hc q1 q2]
        simp
        refine ⟨pure_lot _, ?_⟩
        have g2 : (tr (S ++ O.dic (kI K) ds :: T) od K2 bs ws)[S.length]? = some (.dic (kI K) ds) := by
          unfold tr
          rw [List.getElem?_append_left (by simp)]; exact g1
        rw [r_isd g2]
        refine ⟨by omega, dc_keys (fun e => ⟨_, rfl, rfl⟩) (cmp n ts c) [] [] rfl rfl fun b K' p1 p2 p3 p4 => ?_⟩
        have hbl : b.length = K'.length := by have := congrArg List.length p1; rw [List.length_map, List.length_map] at this; exact this
        rw [r_updD g2 p4 (by rw [List.length_map]; simp at p3; omega)]
        have hz : ((kI K).zip ds).map (·.1) = kI K := List.map_fst_zip (by rw [List.length_map]; omega)
        have hz2 : ((kI K).zip ds).map (·.2) = ds := List.map_snd_zip (by rw [List.length_map]; omega)
        obtain ⟨K3, m1, m2, m3⟩ := merge_keys p1 hz
        have eO : O.ofP (mergeP ((kI K).zip ds) b) = .dic (kI K3) ((mergeP ((kI K).zip ds) b).map (·.2)) := by unfold O.ofP; rw [m1]
        have hpm := pures_mergeP (e := b) (b := (kI K).zip ds) (by rw [hz2]; exact hpd) p4
        have hml : ((mergeP ((kI K).zip ds) b).map (·.2)).length = K3.length := by have := congrArg List.length m1; rw [List.length_map, List.length_map] at this; rw [List.length_map]; exact this
        rw [eO]
        generalize (mergeP ((kI K).zip ds) b).map (·.2) = ds3 at hpm hml ⊢
        refine run_evS ?_
        simp
        refine ⟨pure_lot _, by omega, dn ++ [c], r2, rfl, by rw [hd]; simp, K3, ds3, ?_, hml, hpm, by rw [List.length_append]; simp at p3 ⊢; omega, fun x => ?_, ?_⟩
        · exact ⟨T ++ [.ins "Tree" ["back", "weights", "odd"] [.ref ((S ++ O.dic (kI K) ds :: T).length + 1), .ref ((S ++ O.dic (kI K) ds :: T).length + 2), od], .dic (kI K2) bs, .dic (kI K2) ws], by simp [tr]⟩
        · rw [m2, p2, List.foldl_append, List.foldl_cons, List.foldl_nil, stepF_out hout, hK]
          simp [inF]
        · rw [List.foldl_append, List.foldl_cons, List.foldl_nil, stepF_out hout]
          simp
  · rintro e S1 ⟨dn, r2, K, ds, T, o3, o4, hr, hd, rfl, hdl, hpd, hKl, hK, rfl⟩
    cases r2 with
    | cons c r2 => cases hr
    | nil =>
      rw [List.append_nil] at hd
      simp
      have := k (S ++ O.dic (kI K) ds :: T) ⟨_, rfl⟩
      unfold pcs at this
      rw [hd] at this
      exact this
/-- two fors, the first with a test -/
theorem lc2F {β : Type} {set set1 : SetF} {mt mt1 : Pm.Env → M Bool} {mi1 : Pm.Env → M (List D)} {me : Pm.Env → M D} {vs1 : List Nat} {w : Pm.Env} {S : List O} {PL : List D → List O → Prop} {xs : List β} (c : β → D) (f : β → Bool) (g : β → List D)
    (h : ∀ x ∈ xs, ∃ e, set (c x) w = some e ∧ (Run (mt e) S fun k S2 => k = f x ∧ S2 = S) ∧ (f x = true → Run (mi1 e) S fun es S2 => S2 = S ∧ Run (lcLoop set1 mt1 me (wipeE e vs1) es) S fun ys S3 => ys = g x ∧ S3 = S)) (k : PL ((xs.filter f).flatMap g) S) : Run (lc2Loop set mt mi1 set1 mt1 me vs1 w (xs.map c)) S PL := by
  have key : ∀ l : List β, (∀ x ∈ l, ∃ e, set (c x) w = some e ∧ (Run (mt e) S fun k S2 => k = f x ∧ S2 = S) ∧ (f x = true → Run (mi1 e) S fun es S2 => S2 = S ∧ Run (lcLoop set1 mt1 me (wipeE e vs1) es) S fun ys S3 => ys = g x ∧ S3 = S)) → lc2Loop set mt mi1 set1 mt1 me vs1 w (l.map c) S = some ((l.filter f).flatMap g, S) := by
    intro l
    induction l with
    | nil => intro _; rfl
    | cons d r ih =>
      intro hl
      obtain ⟨e, h1, h2, h3⟩ := hl d List.mem_cons_self
      have ir := ih fun x hx => hl x (List.mem_cons_of_mem _ hx)
      rw [List.map_cons]
      unfold lc2Loop
      rw [h1]
      simp only
      rw [bnd_of (eq_of_run h2)]
      cases hf : f d with
      | true =>
        obtain ⟨es, S2, h5, rfl, h4⟩ := h3 hf
        rw [if_pos rfl, bnd_of h5, bnd_of (eq_of_run h4), bnd_of ir, List.filter_cons_of_pos hf, List.flatMap_cons]
        rfl
      | false => rw [if_neg Bool.false_ne_true, ir, List.filter_cons_of_neg (by rw [hf]; exact Bool.false_ne_true)]
  exact ⟨_, _, key xs h, k⟩
noncomputable def fe (n : Nat) (ts : List (List Part)) (lot : List Int) : List Int := sortI (((pcs n ts).filter fun p => sub p lot).flatMap fun p => p)
theorem pcs_len {n : Nat} {ts : List (List Part)} : (pcs n ts).length ≤ n := by
  have := fold_len (n := n) (ts := ts) (rng n) []
  rw [rng_len] at this
  unfold pcs; simpa using this
theorem r_for_ever_by {n : Nat} {ts : List (List Part)} (hk : HallOk n ts) {lot : List Int} (k : ∀ S', Ext S S' → P (lotD (fe n ts lot)) S') : Run (C_for_ever_by [hallD n ts, lotD lot]) S P := by
  have hb := slb
  have hn := hk.hi
  have hpl := pcs_len (n := n) (ts := ts)
  have hpc : ∀ p ∈ pcs n ts, p.length ≤ n := pcs_of fun c _ => cmp_len
  unfold C_for_ever_by m_for_ever_by
  simp only [run_body, env0, List.map_cons, List.map_nil, List.length_cons, List.length_nil]
  simp
  refine r_pieces_by hk fun S' hE => ?_
  simp [wipeE]
  refine lc2F lotD (fun p => sub p lot) (fun p => p.map .int) ?_ ?_
  · intro p hp
    have := hpc p hp
    refine ⟨_, rfl, ?_, fun _ => ?_⟩
    · simp [r_is_within (show p.length ≤ 100 by omega)]
    · simp [wipeE]
      refine lcX D.int (fun _ => true) D.int ?_ ?_
      · intro x hx
        refine ⟨_, rfl, ?_, fun _ => ?_⟩
        · simp
        · simp
      · rw [List.filter_eq_self.mpr fun _ _ => rfl]
        exact ⟨rfl, rfl⟩
  · have e2 : (((pcs n ts).filter fun p => sub p lot).flatMap fun p => p.map D.int) = (((pcs n ts).filter fun p => sub p lot).flatMap fun p => p).map .int := (List.map_flatMap).symm
    rw [e2]
    have hfl : (((pcs n ts).filter fun p => sub p lot).flatMap fun p => p).length ≤ ((pcs n ts).filter fun p => sub p lot).length * 6 := flat_len fun p hp => by have := hpc p (List.mem_filter.mp hp).1; omega
    have hf2 : ((pcs n ts).filter fun p => sub p lot).length ≤ (pcs n ts).length := List.length_filter_le _ _
    refine ⟨by rw [List.length_map]; omega, ?_⟩
    rw [run_sorted, run_tupL]
    exact k S' hE
end Lw

set_option Elab.async false
set_option linter.all false
set_option maxRecDepth 100000
set_option maxHeartbeats 600000
/-! M52p: the law's own pieces. -/
namespace Lw
open PySem L2 Pm
variable {S : List O} {P : D → List O → Prop}
@[simp] theorem run_any {bs : List Bool} : Run (anyD [.lst (bs.map .bl)]) S P ↔ P (.bl (bs.any id)) S := by
  refine run_eq ?_
  have h : ∀ bs : List Bool, D.bls (bs.map .bl) = some bs := fun bs => by
    induction bs with
    | nil => rfl
    | cons b r ih => simp [D.bls, ih]
  simp [anyD, h, Pm.ret]
@[simp] theorem run_lcatM {ma mb : Pm.Env → M D} {env : Pm.Env} {PL : List D → List O → Prop} : Run (lcatM ma mb env) S PL ↔ Run (ma env) S fun x S1 => Run (mb env) S1 fun y S2 => Run (lcatD x y) S2 PL := by
  unfold lcatM; simp only [run_bnd]
@[simp] theorem run_lcatD {a b : List D} {PL : List D → List O → Prop} : Run (lcatD (.lst a) (.lst b)) S PL ↔ a.length + b.length ≤ sizeLine ∧ PL (a ++ b) S := by
  unfold lcatD; simp only [run_ite, run_ret, run_stuck]; simp
theorem nodup_le {n : Nat} {L : List Int} (h : L.Nodup) (hs : ∀ x ∈ L, x ∈ rng n) : L.length ≤ n := by
  have p : L.Perm ((rng n).filter fun x => decide (x ∈ L)) := (List.perm_ext_iff_of_nodup h ((rng_nodup n).sublist List.filter_sublist)).mpr fun x => by
    rw [List.mem_filter]; simp; exact hs x
  rw [p.length_eq]
  exact Nat.le_trans (List.length_filter_le _ _) (by rw [rng_len]; exact Nat.le_refl _)
theorem seen_nodup {n : Nat} {t : List Part} (h : TellOk n t) {c : Int} (hc : c ∈ rng n) : (seenL t c).Nodup := (h.pt _ (cell_ok h hc)).lot.2.1.imp fun h => by omega
end Lw

set_option Elab.async false
set_option linter.all false
set_option maxRecDepth 100000
set_option maxHeartbeats 600000
/-! M52q: how deep a lot is known. -/
namespace Lw
open PySem L2 Pm
variable {S : List O} {P : D → List O → Prop}
theorem ak_mem {n : Nat} {ts : List (List Part)} {X : List Int} {c : Int} : c ∈ ak n ts X ↔ c ∈ rng n ∧ ∀ t ∈ ts, ∀ f ∈ seenL t c, f ∈ X := by
  unfold ak
  rw [List.mem_filter, List.all_eq_true]
  refine ⟨fun h => ⟨h.1, fun t ht f hf => ?_⟩, fun h => ⟨h.1, fun t ht => ?_⟩⟩
  · have := h.2 t ht
    simp only [decide_eq_true_eq] at this
    unfold kn sub at this
    rw [List.mem_filter, List.all_eq_true] at this
    simpa using this.2 f hf
  · simp only [decide_eq_true_eq]
    unfold kn sub
    rw [List.mem_filter, List.all_eq_true]
    exact ⟨h.1, fun f hf => by simpa using h.2 t ht f hf⟩
theorem ak_le {n : Nat} {ts : List (List Part)} (hk : HallOk n ts) {X : List Int} {c : Int} (h : c ∈ ak n ts X) : c ∈ X := by
  obtain ⟨h1, h2⟩ := ak_mem.mp h
  have ht : ts[0]? = some (ts.getD 0 []) := get_at (by have := hk.t1; omega)
  exact h2 _ (List.mem_of_getElem? ht) c (cell_mem (hk.tl _ (List.mem_of_getElem? ht)) h1)
theorem akN_down {n : Nat} {ts : List (List Part)} (hk : HallOk n ts) {X : List Int} {c : Int} : ∀ (j k : Nat), c ∈ akN n ts (k + j) X → c ∈ akN n ts k X
  | 0, k, h => h
  | j + 1, k, h => akN_down hk j k (ak_le hk (by rw [← akN_succ]; exact h))
theorem akN_nodup {n : Nat} {ts : List (List Part)} {X : List Int} (hX : X.Nodup) (hs : ∀ x ∈ X, x ∈ rng n) : ∀ k : Nat, (akN n ts k X).Nodup ∧ ∀ x ∈ akN n ts k X, x ∈ rng n
  | 0 => ⟨hX, hs⟩
  | k + 1 => by
    rw [akN_succ]
    exact ⟨(rng_nodup n).sublist List.filter_sublist, fun x hx => (ak_mem.mp hx).1⟩
theorem sub_len {a b : List Int} (ha : a.Nodup) (hb : b.Nodup) (h : ∀ x ∈ a, x ∈ b) : a.length ≤ b.length ∧ (b.length ≤ a.length → ∀ x ∈ b, x ∈ a) := by
  have p : a.Perm (b.filter fun x => decide (x ∈ a)) := (List.perm_ext_iff_of_nodup ha (hb.sublist List.filter_sublist)).mpr fun x => by
    rw [List.mem_filter]; simp; exact h x
  have hl := List.length_filter_le (fun x => decide (x ∈ a)) b
  refine ⟨by rw [p.length_eq]; exact hl, fun hle x hx => ?_⟩
  have e : (b.filter fun x => decide (x ∈ a)) = b := List.filter_sublist.eq_of_length (by rw [← p.length_eq]; have := p.length_eq; omega)
  have := (List.mem_filter.mp (by rw [e]; exact hx : x ∈ b.filter fun x => decide (x ∈ a))).2
  simpa using this
theorem stab {n : Nat} {ts : List (List Part)} (hk : HallOk n ts) {X : List Int} (hX : X.Nodup) (hs : ∀ x ∈ X, x ∈ rng n) : ∃ k, k ≤ n ∧ ∀ x ∈ akN n ts k X, x ∈ akN n ts (k + 1) X := by
  refine Classical.byContradiction fun hno => ?_
  have step : ∀ k, k ≤ n → (akN n ts (k + 1) X).length + 1 ≤ (akN n ts k X).length := fun k hkn => by
    have h1 := akN_nodup (ts := ts) hX hs k
    have h2 := akN_nodup (ts := ts) hX hs (k + 1)
    obtain ⟨a1, a2⟩ := sub_len h2.1 h1.1 fun x hx => akN_down hk 1 k hx
    refine Nat.lt_of_le_of_ne a1 fun e => hno ⟨k, hkn, a2 (by omega)⟩
  have all : ∀ k, k ≤ n + 1 → (akN n ts k X).length + k ≤ X.length := fun k => by
    induction k with
    | zero => intro _; exact Nat.le_refl _
    | succ k ih => intro h; have := step k (by omega); have := ih (by omega); omega
  have := all (n + 1) (Nat.le_refl _)
  have := nodup_le hX hs
  omega
/-- what is known so deep is known for ever -/
theorem deep {n : Nat} {ts : List (List Part)} (hk : HallOk n ts) {X : List Int} (hX : X.Nodup) (hs : ∀ x ∈ X, x ∈ rng n) {c : Int} (h : c ∈ akN n ts (n + 1) X) : ∀ e, Conn ts c e → e ∈ X := by
  obtain ⟨k, hkn, hc⟩ := stab hk hX hs
  have h1 : c ∈ akN n ts k X := akN_down hk (n + 1 - k) k (by rw [show k + (n + 1 - k) = n + 1 by omega]; exact h)
  intro e he
  have h2 : e ∈ akN n ts k X := he.closed h1 fun x hx t ht f hf => (ak_mem.mp (by rw [← akN_succ]; exact hc x hx)).2 t ht f hf
  exact akN_down hk k 0 (by rw [Nat.zero_add]; exact h2)
theorem step_keep {n : Nat} {ts : List (List Part)} {F : List (List Int)} {c d : Int} (h : inF F c = true) : inF (stepF n ts F d) c = true := by
  unfold stepF
  split
  · exact h
  · rw [inF_mem] at h ⊢
    obtain ⟨p, h1, h2⟩ := h
    exact ⟨p, List.mem_append_left _ h1, h2⟩
theorem fold_keep {n : Nat} {ts : List (List Part)} {c : Int} : ∀ (l : List Int) (F : List (List Int)), inF F c = true → inF (l.foldl (stepF n ts) F) c = true
  | [], _, h => h
  | d :: r, F, h => fold_keep r _ (step_keep h)
theorem fold_cover {n : Nat} {ts : List (List Part)} {c : Int} (hc : c ∈ rng n) : ∀ (l : List Int) (F : List (List Int)), c ∈ l → inF (l.foldl (stepF n ts) F) c = true
  | d :: r, F, h => by
    rw [List.foldl_cons]
    by_cases e : c = d
    · subst e
      refine fold_keep r _ ?_
      by_cases hin : inF F c = true
      · rw [stepF_in hin]; exact hin
      · rw [stepF_out hin, inF_mem]
        exact ⟨_, List.mem_append_right _ List.mem_cons_self, cmp_mem.mpr ⟨hc, .refl⟩⟩
    · rcases List.mem_cons.mp h with z | z
      · exact absurd z e
      · exact fold_cover hc r _ z
theorem fe_mem {n : Nat} {ts : List (List Part)} {lot : List Int} {c : Int} : c ∈ fe n ts lot ↔ ∃ p ∈ pcs n ts, sub p lot = true ∧ c ∈ p := by
  unfold fe sortI
  rw [(List.mergeSort_perm _ _).mem_iff, List.mem_flatMap]
  constructor
  · rintro ⟨p, h1, h2⟩
    exact ⟨p, (List.mem_filter.mp h1).1, (List.mem_filter.mp h1).2, h2⟩
  · rintro ⟨p, h1, h2, h3⟩
    exact ⟨p, List.mem_filter.mpr ⟨h1, h2⟩, h3⟩
theorem fe_of {n : Nat} {ts : List (List Part)} (hk : HallOk n ts) {lot : List Int} {c : Int} (hc : c ∈ rng n) (h : ∀ e, Conn ts c e → e ∈ lot) : c ∈ fe n ts lot := by
  obtain ⟨p, h1, h2⟩ := inF_mem.mp (fold_cover (ts := ts) hc (rng n) [] hc)
  refine fe_mem.mpr ⟨p, h1, ?_, h2⟩
  have hp : ∀ p ∈ pcs n ts, ∃ d ∈ rng n, p = cmp n ts d := pcs_of (Q := fun p => ∃ d ∈ rng n, p = cmp n ts d) fun d hd => ⟨d, hd, rfl⟩
  obtain ⟨d, hd, rfl⟩ := hp p h1
  have hdc := (cmp_mem.mp h2).2
  unfold sub
  rw [List.all_eq_true]
  intro e he
  have := h e ((hdc.symm hk hd).trans (cmp_mem.mp he).2)
  simpa using this
theorem count_lt (f : Nat) : ∀ n : Nat, f ≤ n → ((List.range n).filter fun i => decide (i < f)).length = f
  | 0, h => by have : f = 0 := by omega
               subst this; rfl
  | n + 1, h => by
    rw [List.range_succ, List.filter_append, List.length_append]
    by_cases he : f = n + 1
    · subst he
      have : ((List.range n).filter fun i => decide (i < n + 1)) = List.range n := List.filter_eq_self.mpr fun i hi => by have := List.mem_range.mp hi; simp; omega
      rw [this]; simp
    · rw [count_lt f n (by omega)]
      have : ¬ n < f := by omega
      simp [this]
/-- how often it is known -/
def dep (n : Nat) (ts : List (List Part)) (lot : List Int) (c : Int) : Nat := ((List.range n).filter fun i => decide (c ∈ akN n ts (i + 1) lot)).length
theorem dep_is {n : Nat} {ts : List (List Part)} (hk : HallOk n ts) {lot : List Int} {c : Int} {f : Nat} (hf : f ≤ n) (h1 : ∀ i, i < f → c ∈ akN n ts (i + 1) lot) (h2 : c ∉ akN n ts (f + 1) lot) : dep n ts lot c = f := by
  unfold dep
  rw [← count_lt f n hf]
  congr 1
  refine List.filter_congr fun i _ => ?_
  by_cases hi : i < f
  · simp [hi, h1 i hi]
  · have : c ∉ akN n ts (i + 1) lot := fun z => h2 (akN_down hk (i - f) (f + 1) (by rw [show f + 1 + (i - f) = i + 1 by omega]; exact z))
    simp [hi, this]
noncomputable def depD (n : Nat) (ts : List (List Part)) (lot : List Int) (c : Int) : D := if c ∈ fe n ts lot then .non else .int (dep n ts lot c)
theorem r_depth_by {n : Nat} {ts : List (List Part)} (hk : HallOk n ts) {lot : List Int} (hl : Lot n lot) {c : Int} (hc : c ∈ rng n) (k : ∀ S', Ext S S' → P (depD n ts lot c) S') : Run (C_depth_by [hallD n ts, lotD lot, .int c]) S P := by
  have hX : lot.Nodup := hl.2.1.imp fun h => by omega
  have hs : ∀ x ∈ lot, x ∈ rng n := fun x hx => mem_rng (hl.1 x hx).1 (hl.1 x hx).2
  unfold C_depth_by m_depth_by
  simp only [run_body, env0, List.map_cons, List.map_nil, List.length_cons, List.length_nil]
  simp
  refine r_for_ever_by hk fun S' hE => ?_
  have kk := k S' hE
  unfold depD at kk
  by_cases hfe : c ∈ fe n ts lot
  · rw [if_pos hfe] at kk
    simp [hfe]
    exact kk
  · rw [if_neg hfe] at kk
    simp [hfe]
    rw [run_evS_same rfl]
    simp
    rw [run_evS_same rfl]
    simp [r_all_know_once hk, setL]
    have hdeep : c ∉ akN n ts (n + 1) lot := fun z => hfe (fe_of hk hc (deep hk hX hs z))
    refine run_whM (fun m e S1 => S1 = S' ∧ ∃ f : Nat, f ≤ n ∧ (∀ i, i < f → c ∈ akN n ts (i + 1) lot) ∧ m = n - f ∧ e = [some (.val (hallD n ts)), some (.val (lotD lot)), some (.val (.int c)), some (.val (.int f)), some (.val (lotD (akN n ts (f + 1) lot)))]) ?_ _ _ _ ⟨rfl, 0, by omega, (by intro i hi; omega), rfl, rfl⟩
    rintro m e S1 ⟨rfl, f, hf, hin, rfl, rfl⟩
    by_cases hcx : c ∈ akN n ts (f + 1) lot
    · have hfn : f < n := Nat.lt_of_le_of_ne hf fun z => hdeep (z ▸ hcx)
      simp [hcx]
      rw [run_evS_same rfl]
      simp
      rw [run_evS_same rfl]
      simp [r_all_know_once hk, setL]
      refine ⟨n - (f + 1), by omega, f + 1, by omega, fun i hi => ?_, rfl, by simp, by rw [← akN_succ]⟩
      by_cases hi2 : i < f
      · exact hin i hi2
      · have : i = f := by omega
        subst this; exact hcx
    · simp [hcx]
      rw [dep_is hk hf hin hcx] at kk
      exact kk
end Lw

set_option Elab.async false
set_option linter.all false
set_option maxRecDepth 100000
set_option maxHeartbeats 600000
/-! M52r: what people pool. -/
namespace Lw
open PySem L2 Pm
variable {S : List O} {P : D → List O → Prop}
/-! keys -/
abbrev keyD (k : List (List Int)) : D := .tup (k.map lotD)
def nkL (l : List Int) : NestedKey := .tup (l.map .num)
def nkK (k : List (List Int)) : NestedKey := .tup (k.map nkL)
theorem nks_int : ∀ l : List Int, D.nks (l.map .int) = some (l.map .num)
  | [] => rfl
  | x :: r => by rw [List.map_cons, D.nks, D.nk, nks_int r]; rfl
theorem nk_lot (l : List Int) : D.nk (lotD l) = some (nkL l) := by rw [D.nk, nks_int]; rfl
theorem nks_lots : ∀ k : List (List Int), D.nks (k.map lotD) = some (k.map nkL)
  | [] => rfl
  | x :: r => by rw [List.map_cons, D.nks, nk_lot, nks_lots r]; rfl
theorem nk_key (k : List (List Int)) : D.nk (keyD k) = some (nkK k) := by rw [D.nk, nks_lots]; rfl
theorem map_inj {α β : Type} {f : α → β} (h : ∀ a b, f a = f b → a = b) : ∀ {x y : List α}, x.map f = y.map f → x = y
  | [], [], _ => rfl
  | a :: x, b :: y, e => by
    simp only [List.map_cons, List.cons.injEq] at e
    rw [h _ _ e.1, map_inj h e.2]
  | [], _ :: _, e => by simp at e
  | _ :: _, [], e => by simp at e
theorem nkK_inj {a b : List (List Int)} (h : nkK a = nkK b) : a = b := by
  unfold nkK at h
  injection h with h
  refine map_inj (fun x y e => ?_) h
  unfold nkL at e
  injection e with e
  exact map_inj (fun i j e => by injection e) e
theorem dep_num : ∀ l : List Int, NestedKey.depthAll (l.map .num) = 0
  | [] => rfl
  | x :: r => by rw [List.map_cons, NestedKey.depthAll, NestedKey.depth, dep_num r]; rfl
theorem dep_lots : ∀ k : List (List Int), NestedKey.depthAll (k.map nkL) ≤ 1
  | [] => Nat.zero_le _
  | x :: r => by
    have := dep_lots r
    have h : (nkL x).depth = 1 := by unfold nkL; rw [NestedKey.depth, dep_num]
    rw [List.map_cons, NestedKey.depthAll, h]
    omega
theorem dep_key (k : List (List Int)) : (nkK k).depth ≤ 8 := by
  have := dep_lots k
  unfold nkK
  rw [NestedKey.depth]; omega
theorem pure_key (k : List (List Int)) : (keyD k).pure = true := pures_all fun d hd => by
  obtain ⟨l, _, rfl⟩ := List.mem_map.mp hd; exact pure_lot l
/-! readings -/
def TicS (o : O) (b : List (D × D)) : Prop := o = .tic b ∨ b = [] ∧ o = .dic [] []
theorem r_tic {l : Nat} {o : O} {b : List (D × D)} {PB : List (D × D) → List O → Prop} (h : S[l]? = some o) (t : TicS o b) : Run (ticD (.ref l)) S PB ↔ PB b S := by
  refine run_eq ?_
  rcases t with rfl | ⟨rfl, rfl⟩ <;> simp only [ticD, h]
theorem r_nk {d : D} {k : NestedKey} {PK : NestedKey → List O → Prop} (h : D.nk d = some k) (h2 : k.depth ≤ 8) : Run (nkD d) S PK ↔ PK k S := by
  refine run_eq ?_
  simp only [nkD, h]
  rw [if_pos h2]; rfl
@[simp] theorem run_tgetM {mo me mf : Pm.Env → M D} {env : Pm.Env} : Run (tgetM mo me mf env) S P ↔ Run (mo env) S fun o S1 => Run (ticD o) S1 fun _ S2 => Run (me env) S2 fun kd S3 => Run (mf env) S3 fun x S4 => Run (ticD o) S4 fun b S5 => Run (nkD kd) S5 fun k S6 => Run (tgetE b kd x k) S6 P := by
  unfold tgetM; simp only [run_bnd]
@[simp] theorem run_tgetE {b : List (D × D)} {ds : List D} {x : D} {k : NestedKey} : Run (tgetE b (.tup ds) x k) S P ↔ P ((lookT b k).getD x) S := run_ret
@[simp] theorem run_tputM {me mo mi : Pm.Env → M D} {env : SEnv} {PF : Flo → List O → Prop} : Run (tputM me mo mi env) S PF ↔ Run (evS me env) S fun v S1 => Run (mo (str env)) S1 fun o S2 => Run (mi (str env)) S2 fun kd S3 => Run (ticD o) S3 fun b S4 => Run (nkD kd) S4 fun k S5 => Run (tputE env b v o kd k) S5 PF := by
  unfold tputM; simp only [run_bnd]
theorem run_tputE {env : SEnv} {b : List (D × D)} {v : D} {l : Nat} {ds : List D} {k : NestedKey} {PF : Flo → List O → Prop} (h1 : v.pure = true) (h2 : (D.tup ds).pure = true) (h3 : b.length < sizeLine) : Run (tputE env b v (.ref l) (.tup ds) k) S PF ↔ PF (.nx env) (S.set l (.tic (putT b k (.tup ds) v))) := by
  refine run_eq ?_
  simp only [tputE]
  rw [if_pos ⟨h1, h2, h3⟩]
@[simp] theorem run_tvalsM {mo : Pm.Env → M D} {env : Pm.Env} : Run (tvalsM mo env) S P ↔ Run (mo env) S fun o S1 => Run (ticD o) S1 fun b S2 => P (.tup (b.map (·.2))) S2 := by
  unfold tvalsM; simp only [run_bnd, run_ret]
theorem run_addT {a b : List D} : Run (addD (.tup a) (.tup b)) S P ↔ a.length + b.length ≤ sizeLine ∧ P (.tup (a ++ b)) S := by
  unfold addD; simp only [run_ite, run_ret, run_stuck]; simp
/-! the classes -/
def kap (ts : List (List Part)) (c : Int) : List (List Int) := ts.map fun t => seenL t c
def grp (n : Nat) (ts : List (List Part)) (c : Int) : List Int := (rng n).filter fun e => decide (kap ts e = kap ts c)
def isF (n : Nat) (ts : List (List Part)) (c : Int) : Bool := decide ((grp n ts c).head? = some c)
def pool (n : Nat) (ts : List (List Part)) : List (List Int) := ((rng n).filter (isF n ts)).map (grp n ts)
def gb (n : Nat) (ts : List (List Part)) (d : List Int) : List (D × D) := (d.filter (isF n ts)).map fun c => (keyD (kap ts c), lotD (d.filter fun e => decide (kap ts e = kap ts c)))
theorem look_map {k : List (List Int)} {ts : List (List Part)} {v : Int → D} : ∀ l : List Int, lookT (l.map fun c => (keyD (kap ts c), v c)) (nkK k) = (l.find? fun c => decide (kap ts c = k)).map v
  | [] => rfl
  | c :: r => by
    have ih := look_map (k := k) (ts := ts) (v := v) r
    unfold lookT at ih ⊢
    rw [List.map_cons, List.find?_cons, List.find?_cons]
    by_cases h : kap ts c = k
    · rw [decide_eq_true h, decide_eq_true (by rw [nk_key, h])]; rfl
    · rw [decide_eq_false h, decide_eq_false (by rw [nk_key]; exact fun e => h (nkK_inj (Option.some.inj e)))]
      exact ih
theorem isF_new {n : Nat} {ts : List (List Part)} {d r : List Int} {c : Int} (h : rng n = d ++ c :: r) : isF n ts c = true ↔ ∀ e ∈ d, kap ts e ≠ kap ts c := by
  have hnd : c ∉ d := fun hc => by
    have := rng_sorted n
    rw [h] at this
    have := (List.pairwise_append.mp this).2.2 c hc c List.mem_cons_self
    omega
  unfold isF grp
  rw [h, List.filter_append, List.filter_cons_of_pos (by simp), decide_eq_true_iff]
  constructor
  · intro e x hx hk
    cases q : d.filter (fun e => decide (kap ts e = kap ts c)) with
    | nil =>
      have : x ∈ d.filter (fun e => decide (kap ts e = kap ts c)) := List.mem_filter.mpr ⟨hx, by simpa using hk⟩
      rw [q] at this; cases this
    | cons y l =>
      rw [q] at e
      simp only [List.cons_append, List.head?_cons, Option.some.injEq] at e
      have : y ∈ d.filter (fun e => decide (kap ts e = kap ts c)) := by rw [q]; exact List.mem_cons_self
      rw [e] at this
      exact hnd (List.mem_filter.mp this).1
  · intro hno
    have : d.filter (fun e => decide (kap ts e = kap ts c)) = [] := List.filter_eq_nil_iff.mpr fun x hx => by simpa using hno x hx
    rw [this]; rfl
theorem isF_old {n : Nat} {ts : List (List Part)} {d r : List Int} {c e : Int} (h : rng n = d ++ c :: r) (he : e ∈ d) (hk : kap ts e = kap ts c) : ∃ c' ∈ d, isF n ts c' = true ∧ kap ts c' = kap ts c := by
  have hm : e ∈ d.filter (fun e => decide (kap ts e = kap ts c)) := List.mem_filter.mpr ⟨he, by simpa using hk⟩
  cases q : d.filter (fun e => decide (kap ts e = kap ts c)) with
  | nil => rw [q] at hm; cases hm
  | cons y l =>
    have hy : y ∈ d.filter (fun e => decide (kap ts e = kap ts c)) := by rw [q]; exact List.mem_cons_self
    have hy2 := List.mem_filter.mp hy
    have hyk : kap ts y = kap ts c := by simpa using hy2.2
    refine ⟨y, hy2.1, ?_, hyk⟩
    unfold isF grp
    rw [hyk, h, List.filter_append, q]
    simp
theorem look_gb {n : Nat} {ts : List (List Part)} {d r : List Int} {c : Int} (h : rng n = d ++ c :: r) : (lookT (gb n ts d) (nkK (kap ts c))).getD (.tup []) = lotD (d.filter fun e => decide (kap ts e = kap ts c)) := by
  unfold gb
  rw [look_map (v := fun c => lotD (d.filter fun e => decide (kap ts e = kap ts c)))]
  cases q : (d.filter (isF n ts)).find? fun x => decide (kap ts x = kap ts c) with
  | some x =>
    have := List.find?_some q
    simp only [decide_eq_true_eq] at this
    rw [← this]; rfl
  | none =>
    have hno : d.filter (fun e => decide (kap ts e = kap ts c)) = [] := List.filter_eq_nil_iff.mpr fun x hx hk => by
      obtain ⟨c', h1, h2, h3⟩ := isF_old h hx (by simpa using hk)
      have := List.find?_eq_none.mp q c' (List.mem_filter.mpr ⟨h1, h2⟩)
      simp [h3] at this
    rw [hno]; rfl
theorem put_gb {n : Nat} {ts : List (List Part)} {d r : List Int} {c : Int} (h : rng n = d ++ c :: r) : putT (gb n ts d) (nkK (kap ts c)) (keyD (kap ts c)) (lotD (d.filter (fun e => decide (kap ts e = kap ts c)) ++ [c])) = gb n ts (d ++ [c]) := by
  have hl : lookT (gb n ts d) (nkK (kap ts c)) = _ := look_map (v := fun c => lotD (d.filter fun e => decide (kap ts e = kap ts c))) _
  unfold putT
  rw [hl]
  have hv : ∀ x : Int, (d ++ [c]).filter (fun e => decide (kap ts e = kap ts x)) = d.filter (fun e => decide (kap ts e = kap ts x)) ++ if kap ts c = kap ts x then [c] else [] := fun x => by
    rw [List.filter_append]
    by_cases q : kap ts c = kap ts x
    · rw [if_pos q, List.filter_cons_of_pos (by simpa using q)]; rfl
    · rw [if_neg q, List.filter_cons_of_neg (by simpa using q)]; rfl
  by_cases q : ∃ e ∈ d, kap ts e = kap ts c
  · obtain ⟨e, he, hk⟩ := q
    obtain ⟨c', h1, h2, h3⟩ := isF_old h he hk
    have hs : ((d.filter (isF n ts)).find? fun x => decide (kap ts x = kap ts c)).isSome = true := by
      rw [List.find?_isSome]
      exact ⟨c', List.mem_filter.mpr ⟨h1, h2⟩, by simpa using h3⟩
    rw [Option.isSome_map, if_pos hs]
    have hF : isF n ts c = false := by
      cases z : isF n ts c with
      | false => rfl
      | true => exact absurd hk ((isF_new h).mp z e he)
    unfold gb
    rw [List.filter_append, List.filter_cons_of_neg (by rw [hF]; exact Bool.false_ne_true), List.filter_nil, List.append_nil, List.map_map]
    refine List.map_congr_left fun x _ => ?_
    show (if D.nk (keyD (kap ts x)) = some (nkK (kap ts c)) then _ else _) = _
    rw [hv x, nk_key]
    by_cases z : kap ts c = kap ts x
    · rw [if_pos (by rw [z]), if_pos z, z]
    · rw [if_neg (fun e => z (nkK_inj (Option.some.inj e)).symm), if_neg z, List.append_nil]
  · have hno : ∀ e ∈ d, kap ts e ≠ kap ts c := fun e he hk => q ⟨e, he, hk⟩
    have hs : ((d.filter (isF n ts)).find? fun x => decide (kap ts x = kap ts c)) = none := List.find?_eq_none.mpr fun x hx => by simpa using hno x (List.mem_filter.mp hx).1
    rw [hs, Option.map_none, if_neg (by simp)]
    unfold gb
    rw [List.filter_append, List.filter_cons_of_pos ((isF_new h).mpr hno), List.filter_nil, List.map_append]
    congr 1
    · refine List.map_congr_left fun x hx => ?_
      rw [hv x, if_neg (fun e => hno x (List.mem_filter.mp hx).1 e.symm), List.append_nil]
    · rw [List.map_cons, List.map_nil, hv c, if_pos rfl]
theorem gb_len {n : Nat} {ts : List (List Part)} {d : List Int} : (gb n ts d).length ≤ d.length := by
  unfold gb; rw [List.length_map]; exact List.length_filter_le _ _
theorem r_pooled_by {n : Nat} {ts : List (List Part)} (hk : HallOk n ts) (k : ∀ o : O, P (.tup ((pool n ts).map lotD)) (S ++ [o])) : Run (C_pooled_by [hallD n ts]) S P := by
  unfold C_pooled_by m_pooled_by
  have hb := slb
  have hn := hk.hi
  have ht := hk.t3
  simp only [run_body, env0, List.map_cons, List.map_nil, List.length_cons, List.length_nil]
  simp only [Nat.reduceAdd, Nat.reduceSub, List.replicate_succ, List.replicate_zero, List.cons_append, List.nil_append, run_seqM, run_setM, run_valM]
  rw [run_evS_same rfl]
  have hsh : ∀ {env : Pm.Env} {PD : D → List O → Prop}, Run (shdM newM env) S PD ↔ PD (.ref S.length) (S ++ [.dic [] []]) := fun {env PD} => by
    refine run_eq ?_
    rfl
  rw [hsh]
  simp
  rw [r_cases_of (show n ≤ 100 by omega)]
  simp
  refine run_forL (fun rest e S1 => ∃ (dn r : List Int) (o : O) (o2 o3 : Option Slot), rest = r.map .int ∧ rng n = dn ++ r ∧ S1 = S ++ [o] ∧ TicS o (gb n ts dn) ∧ e = [some (.val (hallD n ts)), some (.val (.ref S.length)), o2, o3, none]) _ ⟨[], rng n, .dic [] [], none, none, rfl, rfl, rfl, .inr ⟨rfl, rfl⟩, rfl⟩ ?_ ?_
  · rintro d r e S1 ⟨dn, r2, o, o2, o3, hr, hd, rfl, ht1, rfl⟩
    cases r2 with
    | nil => cases hr
    | cons c r2 =>
      rw [List.map_cons] at hr
      injection hr with e1 e2
      subst e1 e2
      have hc : c ∈ rng n := by rw [hd]; simp
      have hdl := rng_app hd
      refine ⟨_, rfl, ?_⟩
      simp only [setNS, List.set_cons_succ, List.set_cons_zero, run_seqM, run_setM, run_valM]
      refine run_evS ?_
      simp [r_persons_of (show ts.length ≤ 100 by omega), wipeE]
      refine ⟨by rw [rng_len]; omega, lcX D.int (fun _ => true) (fun x => lotD (seenL (ts.getD x.toNat []) c)) ?_ ?_⟩
      · intro x hx
        obtain ⟨i, rfl, hi⟩ := rng_mem hx
        have hg := get_at hi
        refine ⟨_, rfl, ?_, fun _ => ?_⟩
        · simp
        · simp [r_seen_by hg (hk.tl _ (List.mem_of_getElem? hg)) hc]
      · rw [List.filter_eq_self.mpr fun _ _ => rfl, rng_map ts [] fun t => lotD (seenL t c)]
        rw [show (ts.map fun t => lotD (seenL t c)) = (kap ts c).map lotD by unfold kap; rw [List.map_map]; rfl]
        have hpk := pure_key (kap ts c)
        have hnk := nk_key (kap ts c)
        have hdk := dep_key (kap ts c)
        have hlk := look_gb (ts := ts) hd
        have hpt := put_gb (ts := ts) hd
        have hgl := gb_len (n := n) (ts := ts) (d := dn)
        generalize kap ts c = kc at hpk hnk hdk hlk hpt ⊢
        refine ⟨hpk, ?_⟩
        have hS : (S ++ [o])[S.length]? = some o := by simp
        rw [run_evS_same rfl]
        simp [r_tic hS ht1, r_nk hnk hdk]
        rw [hlk]
        have hle : (dn.filter fun e => decide (kap ts e = kc)).length ≤ dn.length := List.length_filter_le _ _
        have hp2 : (lotD ((dn.filter fun e => decide (kap ts e = kc)) ++ [c])).pure = true := pure_lot _
        rw [run_addT]
        simp only [List.length_map, List.length_cons, List.length_nil]
        refine ⟨by omega, ?_⟩
        rw [r_tic hS ht1]
        rw [show ((dn.filter fun e => decide (kap ts e = kc)).map D.int) ++ [D.int c] = ((dn.filter fun e => decide (kap ts e = kc)) ++ [c]).map D.int by simp]
        rw [run_tputE hp2 hpk (by omega), hpt]
        exact ⟨dn ++ [c], r2, rfl, by rw [hd]; simp, .tic (gb n ts (dn ++ [c])), by simp, .inl rfl, _, _, rfl⟩
  · rintro e S1 ⟨dn, r2, o, o2, o3, hr, hd, rfl, ht1, rfl⟩
    cases r2 with
    | cons c r2 => cases hr
    | nil =>
      rw [List.append_nil] at hd
      subst hd
      simp
      have hS : (S ++ [o])[S.length]? = some o := by simp
      rw [r_tic hS ht1]
      have e : (gb n ts (rng n)).map (·.2) = (pool n ts).map lotD := by
        unfold gb pool
        rw [List.map_map, List.map_map]; rfl
      show P (D.tup ((gb n ts (rng n)).map (·.2))) _
      rw [e]
      exact k o
end Lw

set_option Elab.async false
set_option linter.all false
set_option maxRecDepth 100000
set_option maxHeartbeats 600000
/-! M52s: pooled, who is finer. -/
namespace Lw
open PySem L2 Pm
variable {S : List O} {P : D → List O → Prop}
theorem r_pooled {n : Nat} {ts : List (List Part)} (hk : HallOk n ts) (k : ∀ o : O, P (.tup ((pool n ts).map lotD)) (S ++ [o])) : Run (C_pooled [hallD n ts]) S P := by
  unfold C_pooled m_pooled
  simp only [run_body, env0, List.map_cons, List.map_nil, List.length_cons, List.length_nil]
  simp [env0]
  exact r_pooled_by hk k
theorem r_check_person {n i : Nat} {ts : List (List Part)} (h : i < ts.length) : Run (C_check_person [hallD n ts, .int i]) S P ↔ P .non S := by
  refine run_is ?_
  unfold C_check_person m_check_person C_is_person m_is_person
  simp only [run_body, env0, List.map_cons, List.map_nil, List.length_cons, List.length_nil]
  simp [env0]
  omega
def finer (n : Nat) (s t : List Part) : Bool := (rng n).all fun c => sub (seenL s c) (seenL t c)
theorem pure_pair (a b : List Int) : (D.tup [lotD a, lotD b]).pure = true := pures_all fun d hd => by
  simp only [List.mem_cons, List.not_mem_nil, or_false] at hd
  rcases hd with rfl | rfl <;> exact pure_lot _
theorem r_is_finer_by {n i j : Nat} {ts : List (List Part)} {s t : List Part} (hk : HallOk n ts) (hi : ts[i]? = some s) (hj : ts[j]? = some t) : Run (C_is_finer_by [hallD n ts, .int i, .int j]) S P ↔ P (.bl (finer n s t)) S := by
  refine run_is ?_
  have hs := hk.tl _ (List.mem_of_getElem? hi)
  have ht := hk.tl _ (List.mem_of_getElem? hj)
  unfold C_is_finer_by m_is_finer_by
  have hb := slb
  have hn := hk.hi
  simp only [run_body, env0, List.map_cons, List.map_nil, List.length_cons, List.length_nil]
  simp
  refine run_evL ?_
  simp [r_cases_of (show n ≤ 100 by omega), wipeE]
  refine ⟨by rw [rng_len]; omega, lcX D.int (fun _ => true) (fun c => D.tup [lotD (seenL s c), lotD (seenL t c)]) ?_ ?_⟩
  · intro c hc
    refine ⟨_, rfl, ?_, fun _ => ?_⟩
    · simp
    · simp [r_seen_by hi hs hc, r_seen_by hj ht hc]
  · rw [List.filter_eq_self.mpr fun _ _ => rfl]
    refine ⟨pures_all fun d hd => ?_, ?_⟩
    · obtain ⟨c, _, rfl⟩ := List.mem_map.mp hd
      exact pure_pair _ _
    · simp [wipeE]
      refine ⟨by rw [rng_len]; omega, ?_⟩
      refine lcA (fun c => D.tup [lotD (seenL s c), lotD (seenL t c)]) (fun c => sub (seenL s c) (seenL t c)) ?_ ?_
      · intro c hc
        refine ⟨_, rfl, ?_, ?_⟩
        · simp
        · simp [r_is_within (seen_len hs hc)]
      · rw [run_all]
        simp [finer, List.all_map]
theorem r_is_finer {n i j : Nat} {ts : List (List Part)} {s t : List Part} (hk : HallOk n ts) (hi : ts[i]? = some s) (hj : ts[j]? = some t) : Run (C_is_finer [hallD n ts, .int i, .int j]) S P ↔ P (.bl (finer n s t)) S := by
  refine run_is ?_
  unfold C_is_finer m_is_finer
  simp only [run_body, env0, List.map_cons, List.map_nil, List.length_cons, List.length_nil]
  simp [env0, r_check_person (List.getElem?_eq_some_iff.mp hi).1, r_check_person (List.getElem?_eq_some_iff.mp hj).1, r_is_finer_by hk hi hj]
/-! what all parts have in common -/
theorem kap_eq {n : Nat} {ts : List (List Part)} (hk : HallOk n ts) {c e : Int} (hc : c ∈ rng n) (he : e ∈ rng n) : kap ts e = kap ts c ↔ ∀ t ∈ ts, e ∈ seenL t c := by
  unfold kap
  constructor
  · intro h t ht
    obtain ⟨i, hi⟩ := List.mem_iff_getElem?.mp ht
    have := congrArg (fun l => l[i]?) h
    simp only [List.getElem?_map, hi, Option.map_some, Option.some.injEq] at this
    rw [← this]
    exact cell_mem (hk.tl t ht) he
  · intro h
    refine List.map_congr_left fun t ht => ?_
    unfold seenL
    rw [cell_same (hk.tl t ht) hc (h t ht)]
theorem grp_eq {n : Nat} {ts : List (List Part)} (hk : HallOk n ts) {c : Int} (hc : c ∈ rng n) : grp n ts c = (rng n).filter fun e => ts.all fun t => decide (e ∈ seenL t c) := by
  unfold grp
  refine List.filter_congr fun e he => ?_
  rw [Bool.eq_iff_iff]
  simp only [decide_eq_true_eq, List.all_eq_true]
  exact kap_eq hk hc he
end Lw

set_option Elab.async false
set_option linter.all false
set_option maxRecDepth 100000
set_option maxHeartbeats 600000
/-! M52t: how all these go together. -/
namespace Lw
open PySem L2 Pm
variable {S : List O} {P : D → List O → Prop}
theorem sub_ext {n : Nat} {a b : List Int} (ha : a.Sublist (rng n)) (hb : b.Sublist (rng n)) (h : ∀ x, x ∈ a ↔ x ∈ b) : a = b := by
  have p : a.Perm b := (List.perm_ext_iff_of_nodup ((rng_nodup n).sublist ha) ((rng_nodup n).sublist hb)).mpr h
  exact p.eq_of_pairwise (le := (· ≤ ·)) (fun x y _ _ q r => Int.le_antisymm q r) (((rng_sorted n).sublist ha).imp fun h => Int.le_of_lt h) (((rng_sorted n).sublist hb).imp fun h => Int.le_of_lt h)
theorem akN_sub {n : Nat} {ts : List (List Part)} {X : List Int} (hX : X.Sublist (rng n)) : ∀ k : Nat, (akN n ts k X).Sublist (rng n)
  | 0 => hX
  | k + 1 => by rw [akN_succ]; exact List.filter_sublist
/-- after one time fewer than there are cases nothing is lost -/
theorem stab1 {n : Nat} {ts : List (List Part)} (hk : HallOk n ts) (hn : 0 < n) {X : List Int} (hX : X.Sublist (rng n)) : ∃ k, k + 1 ≤ n ∧ ∀ x ∈ akN n ts k X, x ∈ akN n ts (k + 1) X := by
  have hnd := (rng_nodup n).sublist hX
  have hs : ∀ x ∈ X, x ∈ rng n := fun x hx => hX.subset hx
  by_cases hall : ∀ x ∈ rng n, x ∈ X
  · refine ⟨0, by omega, fun x hx => ?_⟩
    rw [akN_succ]
    exact ak_mem.mpr ⟨hs x hx, fun t ht f hf => hall f (cell_rng (hk.tl t ht) (hs x hx) hf)⟩
  · have hlt : X.length + 1 ≤ n := by
      obtain ⟨a1, a2⟩ := sub_len hnd (rng_nodup n) hs
      rw [rng_len] at a1 a2
      refine Nat.lt_of_le_of_ne a1 fun e => hall (a2 (by omega))
    refine Classical.byContradiction fun hno => ?_
    have step : ∀ k, k + 1 ≤ n → (akN n ts (k + 1) X).length + 1 ≤ (akN n ts k X).length := fun k hkn => by
      have h1 := akN_nodup (ts := ts) hnd hs k
      have h2 := akN_nodup (ts := ts) hnd hs (k + 1)
      obtain ⟨a1, a2⟩ := sub_len h2.1 h1.1 fun x hx => akN_down hk 1 k hx
      refine Nat.lt_of_le_of_ne a1 fun e => hno ⟨k, hkn, a2 (by omega)⟩
    have all : ∀ k, k ≤ n → (akN n ts k X).length + k ≤ X.length := fun k => by
      induction k with
      | zero => intro _; exact Nat.le_refl _
      | succ k ih => intro h; have := step k h; have := ih (by omega); omega
    have := all n (Nat.le_refl _)
    omega
theorem akN_stop {n : Nat} {ts : List (List Part)} (hk : HallOk n ts) (hn : 0 < n) {X : List Int} (hX : X.Sublist (rng n)) : ∀ j, akN n ts (n - 1 + j) X = akN n ts (n - 1) X := by
  obtain ⟨k, h1, h2⟩ := stab1 hk hn hX
  have e : akN n ts (k + 1) X = akN n ts k X := sub_ext (akN_sub hX _) (akN_sub hX _) fun x => ⟨fun h => akN_down hk 1 k h, h2 x⟩
  have go : ∀ j, akN n ts (k + j) X = akN n ts k X := fun j => by
    induction j with
    | zero => rfl
    | succ j ih => rw [show k + (j + 1) = (k + j) + 1 by omega, akN_succ, ih, ← akN_succ, e]
  intro j
  rw [show n - 1 + j = k + (n - 1 - k + j) by omega, go, show n - 1 = k + (n - 1 - k) by omega, go]
/-! pieces -/
theorem pcs_cmp {n : Nat} {ts : List (List Part)} : ∀ p ∈ pcs n ts, ∃ c ∈ rng n, p = cmp n ts c := pcs_of fun c hc => ⟨c, hc, rfl⟩
theorem cmp_eq {n : Nat} {ts : List (List Part)} (hk : HallOk n ts) {c d x : Int} (hc : c ∈ rng n) (hd : d ∈ rng n) (h1 : x ∈ cmp n ts c) (h2 : x ∈ cmp n ts d) : cmp n ts c = cmp n ts d := by
  have a := (cmp_mem.mp h1).2
  have b := (cmp_mem.mp h2).2
  refine sub_ext cmp_sub cmp_sub fun e => ?_
  rw [cmp_mem, cmp_mem]
  exact ⟨fun h => ⟨h.1, (b.trans (a.symm hk hc)).trans h.2⟩, fun h => ⟨h.1, (a.trans (b.symm hk hd)).trans h.2⟩⟩
theorem pcs_apart {n : Nat} {ts : List (List Part)} (hk : HallOk n ts) : (pcs n ts).Pairwise fun p q => ∀ x ∈ p, x ∉ q := by
  have go : ∀ (l : List Int) (F : List (List Int)), (∀ c ∈ l, c ∈ rng n) → (∀ p ∈ F, ∃ c ∈ rng n, p = cmp n ts c) → (F.Pairwise fun p q => ∀ x ∈ p, x ∉ q) → (l.foldl (stepF n ts) F).Pairwise fun p q => ∀ x ∈ p, x ∉ q := fun l => by
    induction l with
    | nil => intro F _ _ h; exact h
    | cons c l ih =>
      intro F hl hF hp
      have hc := hl c List.mem_cons_self
      rw [List.foldl_cons]
      by_cases hi : inF F c = true
      · rw [stepF_in hi]
        exact ih F (fun x hx => hl x (List.mem_cons_of_mem _ hx)) hF hp
      · rw [stepF_out hi]
        refine ih _ (fun x hx => hl x (List.mem_cons_of_mem _ hx)) (fun p hp => ?_) (List.pairwise_append.mpr ⟨hp, List.pairwise_singleton _ _, fun p hpF q hq x hx hx2 => ?_⟩)
        · rcases List.mem_append.mp hp with z | z
          · exact hF p z
          · simp at z; exact ⟨c, hc, z⟩
        · simp at hq
          subst hq
          obtain ⟨d, hd, rfl⟩ := hF p hpF
          have e := cmp_eq hk hd hc hx hx2
          exact hi (inF_mem.mpr ⟨_, hpF, by rw [e]; exact cmp_mem.mpr ⟨hc, .refl⟩⟩)
  exact go _ _ (fun c h => h) (by intro p hp; cases hp) List.Pairwise.nil
theorem flat_nodup : ∀ {F : List (List Int)}, (F.Pairwise fun p q => ∀ x ∈ p, x ∉ q) → (∀ p ∈ F, p.Nodup) → (F.flatMap fun p => p).Nodup
  | [], _, _ => List.nodup_nil
  | p :: r, h, hn => by
    rw [List.flatMap_cons]
    obtain ⟨h1, h2⟩ := List.pairwise_cons.mp h
    refine List.nodup_append.mpr ⟨hn p List.mem_cons_self, flat_nodup h2 fun q hq => hn q (List.mem_cons_of_mem _ hq), fun a ha b hb e => ?_⟩
    subst e
    obtain ⟨q, hq, hb⟩ := List.mem_flatMap.mp hb
    exact h1 q hq a ha hb
theorem fe_nodup {n : Nat} {ts : List (List Part)} (hk : HallOk n ts) {X : List Int} : (((pcs n ts).filter fun p => sub p X).flatMap fun p => p).Nodup :=
  flat_nodup ((pcs_apart hk).sublist List.filter_sublist) fun p hp => by
    obtain ⟨c, _, rfl⟩ := pcs_cmp p (List.mem_filter.mp hp).1
    exact (rng_nodup n).sublist cmp_sub
theorem fe_closed {n : Nat} {ts : List (List Part)} (hk : HallOk n ts) {X : List Int} {c f : Int} {t : List Part} (h : c ∈ fe n ts X) (ht : t ∈ ts) (hf : f ∈ seenL t c) : f ∈ fe n ts X := by
  obtain ⟨p, h1, h2, h3⟩ := fe_mem.mp h
  refine fe_mem.mpr ⟨p, h1, h2, ?_⟩
  obtain ⟨d, hd, rfl⟩ := pcs_cmp p h1
  obtain ⟨q1, q2⟩ := cmp_mem.mp h3
  exact cmp_mem.mpr ⟨cell_rng (hk.tl t ht) q1 hf, q2.step ht hf⟩
theorem fe_rng {n : Nat} {ts : List (List Part)} {X : List Int} {c : Int} (h : c ∈ fe n ts X) : c ∈ rng n ∧ c ∈ X := by
  obtain ⟨p, h1, h2, h3⟩ := fe_mem.mp h
  obtain ⟨d, hd, rfl⟩ := pcs_cmp p h1
  refine ⟨(cmp_mem.mp h3).1, ?_⟩
  unfold sub at h2
  rw [List.all_eq_true] at h2
  simpa using h2 c h3
theorem fe_akN {n : Nat} {ts : List (List Part)} (hk : HallOk n ts) {X : List Int} : ∀ (k : Nat) {c : Int}, c ∈ fe n ts X → c ∈ akN n ts k X
  | 0, c, h => (fe_rng h).2
  | k + 1, c, h => by
    rw [akN_succ]
    exact ak_mem.mpr ⟨(fe_rng h).1, fun t ht f hf => fe_akN hk k (fe_closed hk h ht hf)⟩
theorem akN_fe {n : Nat} {ts : List (List Part)} (hk : HallOk n ts) (hn : 0 < n) {X : List Int} (hX : X.Sublist (rng n)) : akN n ts n X = fe n ts X := by
  have hnd := (rng_nodup n).sublist hX
  have hs : ∀ x ∈ X, x ∈ rng n := fun x hx => hX.subset hx
  have e1 : akN n ts (n + 1) X = akN n ts n X := by
    have a := akN_stop hk hn hX 2
    have b := akN_stop hk hn hX 1
    rw [show n - 1 + 2 = n + 1 by omega] at a
    rw [show n - 1 + 1 = n by omega] at b
    rw [a, b]
  have hmem : ∀ c, c ∈ akN n ts n X ↔ c ∈ fe n ts X := fun c => by
    refine ⟨fun h => ?_, fun h => fe_akN hk n h⟩
    exact fe_of hk ((akN_sub hX n).subset h) (deep hk hnd hs (by rw [e1]; exact h))
  unfold fe
  refine sortI_eq ((List.perm_ext_iff_of_nodup ((rng_nodup n).sublist (akN_sub hX n)) (fe_nodup hk)).mpr fun c => ?_) (((rng_sorted n).sublist (akN_sub hX n)).imp fun h => Int.le_of_lt h)
  rw [hmem c]
  unfold fe sortI
  exact (List.mergeSort_perm _ _).mem_iff
/-! depths -/
theorem first_out {p : Nat → Prop} : ∀ m : Nat, (∃ f, f ≤ m ∧ (∀ i, i < f → p i) ∧ ¬ p f) ∨ ∀ i, i ≤ m → p i
  | 0 => by
    by_cases h : p 0
    · exact .inr fun i hi => by have : i = 0 := by omega
                                subst this; exact h
    · exact .inl ⟨0, Nat.le_refl _, fun i hi => by omega, h⟩
  | m + 1 => by
    rcases first_out (p := p) m with ⟨f, h1, h2, h3⟩ | h
    · exact .inl ⟨f, by omega, h2, h3⟩
    · by_cases q : p (m + 1)
      · refine .inr fun i hi => ?_
        by_cases e : i = m + 1
        · subst e; exact q
        · exact h i (by omega)
      · exact .inl ⟨m + 1, Nat.le_refl _, fun i hi => h i (by omega), q⟩
theorem dep_max {n : Nat} {ts : List (List Part)} (hk : HallOk n ts) {X : List Int} (hX : X.Sublist (rng n)) {c : Int} (hc : c ∈ rng n) (hfe : c ∉ fe n ts X) :
    maxI (0 :: ((List.range (n + 1)).filter fun i => decide (c ∈ akN n ts i X)).map fun i : Nat => (i : Int)) = (dep n ts X c : Nat) := by
  have hnd := (rng_nodup n).sublist hX
  have hs : ∀ x ∈ X, x ∈ rng n := fun x hx => hX.subset hx
  have hdeep : c ∉ akN n ts (n + 1) X := fun z => hfe (fe_of hk hc (deep hk hnd hs z))
  rcases first_out (p := fun i => c ∈ akN n ts (i + 1) X) n with ⟨f, h1, h2, h3⟩ | h
  · rw [dep_is hk h1 h2 h3]
    refine (maxI_eq ?_ fun y hy => ?_).symm
    · by_cases hf : f = 0
      · subst hf; exact List.mem_cons_self
      · refine List.mem_cons_of_mem _ (List.mem_map.mpr ⟨f, List.mem_filter.mpr ⟨List.mem_range.mpr (by omega), ?_⟩, rfl⟩)
        have := h2 (f - 1) (by omega)
        rw [show f - 1 + 1 = f by omega] at this
        simpa using this
    · rcases List.mem_cons.mp hy with rfl | hy
      · omega
      · obtain ⟨i, hi, rfl⟩ := List.mem_map.mp hy
        have hm := (List.mem_filter.mp hi).2
        simp only [decide_eq_true_eq] at hm
        refine Classical.byContradiction fun hlt => h3 (akN_down hk (i - (f + 1)) (f + 1) (by rw [show f + 1 + (i - (f + 1)) = i by omega]; exact hm))
  · exact absurd (h n (Nat.le_refl _)) hdeep
/-! pools -/
theorem pool_all {n : Nat} {ts : List (List Part)} : sortI ((pool n ts).flatMap fun p => p) = rng n := by
  refine (sortI_eq ?_ ((rng_sorted n).imp fun h => Int.le_of_lt h)).symm
  refine (List.perm_ext_iff_of_nodup (rng_nodup n) (flat_nodup ?_ fun p hp => ?_)).mpr fun c => ?_
  · unfold pool
    rw [List.pairwise_map]
    have hp := (rng_sorted n).sublist (List.filter_sublist (p := isF n ts))
    have hF : ∀ c ∈ (rng n).filter (isF n ts), isF n ts c = true := fun c h => (List.mem_filter.mp h).2
    generalize (rng n).filter (isF n ts) = l at hp hF
    induction l with
    | nil => exact .nil
    | cons a l ih =>
      obtain ⟨p1, p2⟩ := List.pairwise_cons.mp hp
      refine List.pairwise_cons.mpr ⟨fun b hb x hx hx2 => ?_, ih p2 fun c h => hF c (List.mem_cons_of_mem _ h)⟩
      have k1 : kap ts x = kap ts a := by simpa using (List.mem_filter.mp hx).2
      have k2 : kap ts x = kap ts b := by simpa using (List.mem_filter.mp hx2).2
      have e : grp n ts a = grp n ts b := by unfold grp; rw [← k1, ← k2]
      have h1 := hF a List.mem_cons_self
      have h2 := hF b (List.mem_cons_of_mem _ hb)
      unfold isF at h1 h2
      simp only [decide_eq_true_eq] at h1 h2
      rw [e, h2] at h1
      have := p1 b hb
      cases h1
      omega
  · unfold pool at hp
    obtain ⟨c, _, rfl⟩ := List.mem_map.mp hp
    exact (rng_nodup n).sublist List.filter_sublist
  · constructor
    · intro hc
      obtain ⟨d, r, hd⟩ := List.append_of_mem hc
      have hcg : c ∈ grp n ts c := List.mem_filter.mpr ⟨hc, by simp⟩
      by_cases h : ∀ e ∈ d, kap ts e ≠ kap ts c
      · exact List.mem_flatMap.mpr ⟨grp n ts c, List.mem_map.mpr ⟨c, List.mem_filter.mpr ⟨hc, (isF_new hd).mpr h⟩, rfl⟩, hcg⟩
      · have : ∃ e ∈ d, kap ts e = kap ts c := Classical.byContradiction fun hno => h fun e he hk => hno ⟨e, he, hk⟩
        obtain ⟨e, he, hk⟩ := this
        obtain ⟨c', h1, h2, h3⟩ := isF_old hd he hk
        refine List.mem_flatMap.mpr ⟨grp n ts c', List.mem_map.mpr ⟨c', List.mem_filter.mpr ⟨by rw [hd]; exact List.mem_append_left _ h1, h2⟩, rfl⟩, List.mem_filter.mpr ⟨hc, by simp [h3]⟩⟩
    · intro h
      obtain ⟨p, hp, hc⟩ := List.mem_flatMap.mp h
      obtain ⟨d, _, rfl⟩ := List.mem_map.mp hp
      exact (List.mem_filter.mp hc).1
theorem pool_in {n : Nat} {ts : List (List Part)} (hk : HallOk n ts) {p : List Int} (hp : p ∈ pool n ts) : ∃ c r, p = c :: r ∧ c ∈ rng n ∧ p.length ≤ n ∧ ∀ e ∈ p, e ∈ rng n ∧ ∀ t ∈ ts, e ∈ seenL t c := by
  obtain ⟨d, hd, rfl⟩ := List.mem_map.mp hp
  have hd2 := (List.mem_filter.mp hd).1
  have hdg : d ∈ grp n ts d := List.mem_filter.mpr ⟨hd2, by simp⟩
  have hl : (grp n ts d).length ≤ n := Nat.le_trans (List.length_filter_le _ _) (by rw [rng_len]; exact Nat.le_refl _)
  have hm : ∀ e ∈ grp n ts d, e ∈ rng n ∧ kap ts e = kap ts d := fun e he => ⟨(List.mem_filter.mp he).1, by simpa using (List.mem_filter.mp he).2⟩
  cases q : grp n ts d with
  | nil => rw [q] at hdg; cases hdg
  | cons c r =>
    rw [q] at hl hm
    have hc := hm c List.mem_cons_self
    refine ⟨c, r, rfl, hc.1, hl, fun e he => ⟨(hm e he).1, (kap_eq hk hc.1 (hm e he).1).mp ((hm e he).2.trans hc.2.symm)⟩⟩
end Lw

set_option Elab.async false
set_option linter.all false
set_option maxRecDepth 100000
set_option maxHeartbeats 600000
/-! M52u: what is asked; two lots. -/
namespace Lw
open PySem L2 Pm
variable {S : List O} {P : D → List O → Prop}
theorem r_for_ever {n : Nat} {ts : List (List Part)} (hk : HallOk n ts) {lot : List Int} (hl : Lot n lot) (k : ∀ S', Ext S S' → P (lotD (fe n ts lot)) S') : Run (C_for_ever [hallD n ts, lotD lot]) S P := by
  unfold C_for_ever m_for_ever C_check_known m_check_known
  simp only [run_body, env0, List.map_cons, List.map_nil, List.length_cons, List.length_nil]
  simp [env0, r_check_lot hl]
  exact r_for_ever_by hk k
theorem r_check_case {n : Nat} {ts : List (List Part)} {c : Int} (hc : c ∈ rng n) : Run (C_check_case [hallD n ts, .int c]) S P ↔ P .non S := by
  refine run_is ?_
  have hc2 := rng_bd hc
  unfold C_check_case m_check_case C_is_case m_is_case
  simp only [run_body, env0, List.map_cons, List.map_nil, List.length_cons, List.length_nil]
  simp [env0]
  omega
theorem r_depth {n : Nat} {ts : List (List Part)} (hk : HallOk n ts) {lot : List Int} (hl : Lot n lot) {c : Int} (hc : c ∈ rng n) (k : ∀ S', Ext S S' → P (depD n ts lot c) S') : Run (C_depth [hallD n ts, lotD lot, .int c]) S P := by
  unfold C_depth m_depth C_check_known m_check_known
  simp only [run_body, env0, List.map_cons, List.map_nil, List.length_cons, List.length_nil]
  simp [env0, r_check_lot hl, r_check_case hc]
  exact r_depth_by hk hl hc k
theorem r_knows {n i : Nat} {ts : List (List Part)} {t : List Part} (hk : HallOk n ts) (hi : ts[i]? = some t) {lot : List Int} (hl : Lot n lot) : Run (C_knows [hallD n ts, .int i, lotD lot]) S P ↔ P (lotD (kn n t lot)) S := by
  refine run_is ?_
  have hn := hk.hi
  unfold C_knows m_knows
  simp only [run_body, env0, List.map_cons, List.map_nil, List.length_cons, List.length_nil]
  simp [env0, r_check_lot hl, r_check_person (List.getElem?_eq_some_iff.mp hi).1, r_knows_by (show n ≤ 100 by omega) hi (hk.tl _ (List.mem_of_getElem? hi))]
theorem r_seen {n i : Nat} {ts : List (List Part)} {t : List Part} (hk : HallOk n ts) (hi : ts[i]? = some t) {c : Int} (hc : c ∈ rng n) : Run (C_seen [hallD n ts, .int i, .int c]) S P ↔ P (lotD (seenL t c)) S := by
  refine run_is ?_
  unfold C_seen m_seen
  simp only [run_body, env0, List.map_cons, List.map_nil, List.length_cons, List.length_nil]
  simp [env0, r_check_case hc, r_check_person (List.getElem?_eq_some_iff.mp hi).1, r_seen_by hi (hk.tl _ (List.mem_of_getElem? hi)) hc]
theorem r_pieces {n : Nat} {ts : List (List Part)} (hk : HallOk n ts) (k : ∀ S', Ext S S' → P (.tup ((pcs n ts).map lotD)) S') : Run (C_pieces [hallD n ts]) S P := by
  unfold C_pieces m_pieces
  simp only [run_body, env0, List.map_cons, List.map_nil, List.length_cons, List.length_nil]
  simp [env0]
  exact r_pieces_by hk k
theorem r_all_know {n k : Nat} {ts : List (List Part)} (hk : HallOk n ts) {lot : List Int} (hl : Lot n lot) (h9 : k ≤ 9) : Run (C_all_know [hallD n ts, lotD lot, .int k]) S P ↔ P (lotD (akN n ts k lot)) S := by
  refine run_is ?_
  have hby : ∀ {P : D → List O → Prop}, Run (C_all_know_by [hallD n ts, lotD lot, .int k]) S P ↔ P (lotD (akN n ts k lot)) S := fun {P} => by
    refine run_is ?_
    unfold C_all_know_by m_all_know_by
    simp only [run_body, env0, List.map_cons, List.map_nil, List.length_cons, List.length_nil]
    simp
    rw [run_evS_same rfl]
    simp [rgD_rng]
    refine ⟨by omega, run_forL (fun rest e S1 => S1 = S ∧ ∃ (j : Nat) (o4 : Option Pm.Slot), rest.length + j = k ∧ e = [some (.val (hallD n ts)), some (.val (lotD lot)), some (.val (.int k)), some (.val (lotD (akN n ts j lot))), o4]) _ ⟨rfl, 0, none, by rw [List.length_map, rng_len]; rfl, rfl⟩ ?_ ?_⟩
    · rintro d r e S1 ⟨rfl, j, o4, hj, rfl⟩
      rw [List.length_cons] at hj
      refine ⟨_, rfl, ?_⟩
      simp only [setNS, List.set_cons_succ, List.set_cons_zero, run_setM, run_valM]
      refine run_evS ?_
      simp [r_all_know_once hk]
      exact ⟨pure_lot _, j + 1, by omega, by rw [akN_succ]⟩
    · rintro e S1 ⟨rfl, j, o4, hj, rfl⟩
      rw [List.length_nil] at hj
      have : j = k := by omega
      subst this
      simp
  unfold C_all_know m_all_know C_check_known m_check_known C_is_times m_is_times
  simp only [run_body, env0, List.map_cons, List.map_nil, List.length_cons, List.length_nil]
  simp [env0, r_check_lot hl, hby]
  omega
/-! two lots -/
theorem lot_of {n : Nat} {lot : List Int} (hn : n ≤ 6) (h : lot.Sublist (rng n)) : Lot n lot := ⟨fun x hx => rng_bd (h.subset hx), (rng_sorted n).sublist h, Nat.le_trans h.length_le (by rw [rng_len]; omega)⟩
theorem kn_mem {n : Nat} {t : List Part} {X : List Int} {c : Int} : c ∈ kn n t X ↔ c ∈ rng n ∧ ∀ f ∈ seenL t c, f ∈ X := by
  unfold kn sub
  rw [List.mem_filter, List.all_eq_true]
  exact ⟨fun h => ⟨h.1, fun f hf => by simpa using h.2 f hf⟩, fun h => ⟨h.1, fun f hf => by simpa using h.2 f hf⟩⟩
theorem kn_len {n : Nat} {t : List Part} {X : List Int} : (kn n t X).length ≤ n := Nat.le_trans (List.length_filter_le _ _) (by rw [rng_len]; exact Nat.le_refl _)
theorem all_in {l m : List Int} (h : ∀ x ∈ l, x ∈ m) : (l.map fun x => decide (x ∈ m)).all id = true := by
  rw [List.all_map, List.all_eq_true]
  intro x hx
  simpa using h x hx
theorem lc_all {set : SetF} {me : Pm.Env → M D} {w : Pm.Env} {l m : List Int} (h : ∀ x ∈ l, ∃ e, set (.int x) w = some e ∧ Run (me e) S fun y S2 => y = .bl (decide (x ∈ m)) ∧ S2 = S) (hm : ∀ x ∈ l, x ∈ m) (k : P (.bl true) S) : Run (lcLoop set yesM me w (l.map .int)) S fun ds S1 => Run (allD [.lst ds]) S1 P := by
  refine lcA D.int (fun x => decide (x ∈ m)) (fun x hx => ?_) ?_
  · obtain ⟨e, h1, h2⟩ := h x hx
    exact ⟨e, h1, by simp, h2⟩
  · rw [run_all, all_in hm]
    exact k
@[simp] theorem r_ninT {c : Int} {l : List Int} : Run (notInD (.int c) (lotD l)) S P ↔ P (.bl (!decide (c ∈ l))) S := r_inP (g := not) rfl
theorem e_neL {a b : List Int} : Run (neD (lotD a) (lotD b)) S P ↔ P (.bl (!decide (a = b))) S := e_lotQ (g := not)
theorem r_lots_right {n : Nat} {ts : List (List Part)} (hk : HallOk n ts) {a b : List Int} (ha : a.Sublist (rng n)) (hb2 : b.Sublist (rng n)) : Run (C__law_lots_right [dD n ts, hallD n ts, lotD a, lotD b]) S P ↔ P (.bl true) S := by
  refine run_is ?_
  have hb := slb
  have hn := hk.hi
  have ht3 := hk.t3
  have la := ha.length_le
  rw [rng_len] at la
  unfold C__law_lots_right m__law_lots_right
  simp only [run_body, env0, List.map_cons, List.map_nil, List.length_cons, List.length_nil]
  simp only [Nat.reduceAdd, Nat.reduceSub, List.replicate_succ, List.replicate_zero, List.cons_append, List.nil_append, run_seqM, run_setM, run_valM]
  rw [run_evS_same rfl]
  simp [wipeE]
  refine ⟨by omega, lcX D.int (fun c => decide (c ∈ b)) D.int ?_ ?_⟩
  · intro x hx
    refine ⟨_, rfl, ?_, fun _ => ?_⟩
    · simp
      by_cases hm : x ∈ b <;> simp [hm]
    · simp
  · generalize hm : a.filter (fun c => decide (c ∈ b)) = m
    have hms : m.Sublist (rng n) := by rw [← hm]; exact List.filter_sublist.trans ha
    have hmm : ∀ x, x ∈ m ↔ x ∈ a ∧ x ∈ b := fun x => by rw [← hm, List.mem_filter]; simp
    clear hm
    rw [rgD_rng]
    refine ⟨by omega, run_forL (fun rest e S1 => S1 = S ∧ (∀ d ∈ rest, ∃ (i : Nat), d = .int i ∧ i < ts.length) ∧ ∃ (o5 o6 o7 o8 o9 : Option Pm.Slot), e = [some (.val (dD n ts)), some (.val (hallD n ts)), some (.val (lotD a)), some (.val (lotD b)), some (.val (lotD m)), o5, o6, o7, o8, o9, none]) _ ⟨rfl, ?_, _, _, _, _, _, rfl⟩ ?_ ?_⟩
    · intro d hd
      obtain ⟨x, hx, rfl⟩ := List.mem_map.mp hd
      obtain ⟨i, rfl, hi⟩ := rng_mem hx
      exact ⟨i, rfl, hi⟩
    · rintro d r e S1 ⟨rfl, hr, o5, o6, o7, o8, o9, rfl⟩
      obtain ⟨i, rfl, hi⟩ := hr d List.mem_cons_self
      have hr2 := fun d hd => hr d (List.mem_cons_of_mem _ hd)
      have hg := get_at hi
      generalize ts.getD i [] = t at hg
      have htt := hk.tl _ (List.mem_of_getElem? hg)
      refine ⟨_, rfl, ?_⟩
      simp only [setNS, List.set_cons_succ, List.set_cons_zero, run_seqM, run_parM, run_slsM, run_valM]
      refine run_evS ?_
      simp [r_knows hk hg (lot_of hn ha)]
      refine ⟨pure_lot _, ?_⟩
      refine run_evS ?_
      simp [r_knows hk hg (lot_of hn hms), setL]
      refine ⟨pure_lot _, ?_⟩
      have hkl := kn_len (n := n) (t := t) (X := a)
      have hkm := kn_len (n := n) (t := t) (X := m)
      have hka : ∀ x ∈ kn n t a, x ∈ a := fun x hx => (kn_mem.mp hx).2 x (cell_mem htt (kn_mem.mp hx).1)
      have hmk : ∀ x ∈ kn n t m, x ∈ kn n t a := fun x hx => kn_mem.mpr ⟨(kn_mem.mp hx).1, fun f hf => ((hmm f).mp ((kn_mem.mp hx).2 f hf)).1⟩
      have hks : (kn n t m) = (kn n t a).filter fun x => decide (x ∈ kn n t b) := sub_ext (by unfold kn; exact List.filter_sublist) (by unfold kn; exact List.filter_sublist.trans List.filter_sublist) fun x => by
        rw [List.mem_filter, decide_eq_true_iff, kn_mem, kn_mem, kn_mem]
        constructor
        · intro h
          exact ⟨⟨h.1, fun f hf => ((hmm f).mp (h.2 f hf)).1⟩, h.1, fun f hf => ((hmm f).mp (h.2 f hf)).2⟩
        · intro h
          exact ⟨h.1.1, fun f hf => (hmm f).mpr ⟨h.1.2 f hf, h.2.2 f hf⟩⟩
      refine ⟨by omega, lc_all (fun x hx => ?_) hka ⟨rfl, by omega, lc_all (fun x hx => ?_) hmk ⟨rfl, by omega, lcX D.int (fun x => decide (x ∈ kn n t b)) D.int (fun x hx => ?_) ?_⟩⟩⟩
      · exact ⟨_, rfl, by simp [wipeE]⟩
      · exact ⟨_, rfl, by simp [wipeE]⟩
      · refine ⟨_, rfl, ?_, fun _ => ?_⟩
        · simp [r_knows hk hg (lot_of hn hb2), wipeE]
          by_cases hq : x ∈ kn n t b <;> simp [hq]
        · simp [wipeE]
      · rw [← hks, e_neL]
        simp
        refine run_forL (fun rest e S2 => S2 = S1 ∧ ∃ (l : List Int) (o8 : Option Pm.Slot), rest = l.map .int ∧ (∀ x ∈ l, x ∈ kn n t a) ∧ e = [some (.val (dD n ts)), some (.val (hallD n ts)), some (.val (lotD a)), some (.val (lotD b)), some (.val (lotD m)), some (.val (.int i)), some (.val (lotD (kn n t a))), some (.val (lotD (kn n t m))), o8, o9, none]) _ ⟨rfl, _, _, rfl, fun x h => h, rfl⟩ ?_ ?_
        · rintro d r' e S2 ⟨rfl, l, p8, hr', hl, rfl⟩
          cases l with
          | nil => cases hr'
          | cons c l =>
            rw [List.map_cons] at hr'
            injection hr' with e1 e2
            subst e1 e2
            have hc := hl c List.mem_cons_self
            have hcr := (kn_mem.mp hc).1
            have hsl : (cell t c).1.length ≤ 100 := seen_len htt hcr
            refine ⟨_, rfl, ?_⟩
            simp [setNS, r_seen hk hg hcr, wipeE]
            refine ⟨by show (cell t c).1.length < _; omega, ?_⟩
            refine lcA D.int (fun x => !decide (x ∈ kn n t a)) (fun x hx => ?_) ?_
            · refine ⟨_, rfl, ?_, ?_⟩
              · simp
              · simp
            · rw [run_any]
              have hany : ((seenL t c).map fun x => !decide (x ∈ kn n t a)).any id = false := by
                rw [List.any_map, List.any_eq_false]
                intro x hx
                have hx2 : x ∈ kn n t a := kn_mem.mpr ⟨cell_rng htt hcr hx, fun f hf => (kn_mem.mp hc).2 f (by unfold seenL at hf ⊢; rw [← cell_same htt hcr hx]; exact hf)⟩
                simp [hx2]
              rw [hany]
              exact ⟨rfl, rfl, l, rfl, fun x hx => hl x (List.mem_cons_of_mem _ hx)⟩
        · rintro e S2 ⟨rfl, l, p8, hr', hl, rfl⟩
          simp
          rw [rgD_rng]
          refine ⟨by omega, run_forL (fun rest e S3 => S3 = S2 ∧ (∀ d ∈ rest, ∃ (j : Nat), d = .int j ∧ j < ts.length) ∧ ∃ (o8 o9 : Option Pm.Slot), e = [some (.val (dD n ts)), some (.val (hallD n ts)), some (.val (lotD a)), some (.val (lotD b)), some (.val (lotD m)), some (.val (.int i)), some (.val (lotD (kn n t a))), some (.val (lotD (kn n t m))), o8, o9, none]) _ ⟨rfl, ?_, _, _, rfl⟩ ?_ ?_⟩
          · intro d hd
            obtain ⟨x, hx, rfl⟩ := List.mem_map.mp hd
            obtain ⟨j, rfl, hj⟩ := rng_mem hx
            exact ⟨j, rfl, hj⟩
          · rintro d r' e S3 ⟨rfl, hq, q8, q9, rfl⟩
            obtain ⟨j, rfl, hj⟩ := hq d List.mem_cons_self
            have hq2 := fun d hd => hq d (List.mem_cons_of_mem _ hd)
            have hg2 := get_at hj
            generalize ts.getD j [] = t2 at hg2
            have htt2 := hk.tl _ (List.mem_of_getElem? hg2)
            have hk2 := kn_len (n := n) (t := t2) (X := a)
            refine ⟨_, rfl, ?_⟩
            simp [setNS, r_is_finer hk hg hg2]
            cases hfin : finer n t t2 with
            | false => simp; exact hq2
            | true =>
              have hin : ∀ x ∈ kn n t2 a, x ∈ kn n t a := fun x hx => by
                obtain ⟨h1, h2⟩ := kn_mem.mp hx
                refine kn_mem.mpr ⟨h1, fun f hf => h2 f ?_⟩
                unfold finer at hfin
                rw [List.all_eq_true] at hfin
                have := hfin x h1
                unfold sub at this
                rw [List.all_eq_true] at this
                simpa using this f hf
              simp [r_knows hk hg2 (lot_of hn ha), wipeE]
              exact ⟨by omega, lc_all (fun x hx => ⟨_, rfl, by simp⟩) hin ⟨rfl, rfl, hq2⟩⟩
          · rintro e S3 ⟨rfl, hq, q8, q9, rfl⟩
            exact ⟨rfl, hr2, _, _, _, _, _, rfl⟩
    · rintro e S1 ⟨rfl, hr, o5, o6, o7, o8, o9, rfl⟩
      simp
end Lw

set_option Elab.async false
set_option linter.all false
set_option maxRecDepth 100000
set_option maxHeartbeats 600000
/-! M52v: the law itself. -/
namespace Lw
open PySem L2 Pm
variable {S : List O} {P : D → List O → Prop}
@[simp] theorem run_mulL {a : List D} {k : Int} : Run (mulD (.lst a) (.int k)) S P ↔ (-(2 ^ 63) ≤ k ∧ k < 2 ^ 63 ∧ a.length * k.toNat ≤ sizeLine) ∧ P (.lst (List.replicate k.toNat a).flatten) S := by
  unfold mulD; simp only [run_ite, run_ret, run_stuck]; simp
@[simp] theorem run_listT {ds : List D} : Run (listD [.tup ds]) S P ↔ P (.lst ds) S := run_ret
theorem e_neB {a b : Bool} : Run (neD (.bl a) (.bl b)) S P ↔ P (.bl (!decide (a = b))) S := by
  refine run_eq ?_
  cases a <;> cases b <;> rfl
theorem e_neII {a : Int} : Run (neD (.int a) (.int a)) S P ↔ P (.bl false) S := by
  have h := eq_py (S := S) (P := P) (g := not) (x := .int a) (y := .int a) rfl rfl rfl rfl
  have e : PyData.eqv (.int a) (.int a) = true := by simp [PyData.eqv]
  rw [e] at h
  exact h
theorem e_neNN : Run (neD .non .non) S P ↔ P (.bl false) S := run_eq rfl
theorem run_addLL {a b : List D} : Run (addD (.lst a) (.lst b)) S P ↔ a.length + b.length ≤ sizeLine ∧ P (.lst (a ++ b)) S := by
  unfold addD; simp only [run_ite, run_ret, run_stuck]; simp
theorem r_maxL {ns : List Int} (h : ns ≠ []) : Run (maxLD [.lst (ns.map .int)]) S P ↔ P (.int (maxI ns)) S := by
  refine run_eq ?_
  simp only [maxLD, listInts, D.ints_map]
  rw [if_pos (List.length_pos_iff.mpr h)]; rfl
@[simp] theorem run_zipL {xs ys : List D} {PL : List D → List O → Prop} : Run (zipD [.lst xs, .lst ys]) S PL ↔ PL ((xs.zip ys).map fun p => .tpl [p.1, p.2]) S := run_ret
theorem run_frzO {i : Nat} {m : MS} {se : SEnv} {ds : List D} {PF : Flo → List O → Prop} (h : se[i]? = some (some (.own ds))) : Run (frzM i m se) S PF ↔ Run (m (se.set i (some (.val (.lst ds))))) S PF := by
  unfold frzM; rw [h]
theorem run_frzV {i : Nat} {m : MS} {se : SEnv} {d : D} {PF : Flo → List O → Prop} (h : se[i]? = some (some (.val d))) : Run (frzM i m se) S PF ↔ Run (m se) S PF := by
  unfold frzM; rw [h]
theorem piece_fe {n : Nat} {ts : List (List Part)} (hk : HallOk n ts) {X p : List Int} (hp : p ∈ pcs n ts) {x : Int} (hx : x ∈ p) : decide (x ∈ fe n ts X) = sub p X := by
  rw [Bool.eq_iff_iff, decide_eq_true_iff, fe_mem]
  constructor
  · rintro ⟨q, h1, h2, h3⟩
    obtain ⟨c, hc, rfl⟩ := pcs_cmp p hp
    obtain ⟨d, hd, rfl⟩ := pcs_cmp q h1
    rw [cmp_eq hk hc hd hx h3]; exact h2
  · intro h
    exact ⟨p, hp, h, hx⟩
theorem piece_ne {n : Nat} {ts : List (List Part)} {p : List Int} (hp : p ∈ pcs n ts) : ∃ x m, p = x :: m ∧ p.length ≤ n := by
  obtain ⟨c, hc, rfl⟩ := pcs_cmp p hp
  have hm : c ∈ cmp n ts c := cmp_mem.mpr ⟨hc, .refl⟩
  have hl := cmp_len (n := n) (ts := ts) (c := c)
  cases q : cmp n ts c with
  | nil => rw [q] at hm; cases hm
  | cons x m => rw [q] at hl; exact ⟨x, m, rfl, hl⟩
def IsP (ts : List (List Part)) (d : D) : Prop := ∃ (i : Nat) (t : List Part), d = .int i ∧ ts[i]? = some t
theorem r_law_right {l : Nat} {most odd : Int} (h : PoolOk l S) (h1 : 3 ≤ most) (h2 : most ≤ 6) (k : ∀ S', PoolOk l S' → P (.bl true) S') : Run (C__law_right [.ref l, .lst [.int most, .int odd]]) S P := by
  unfold C__law_right m__law_right
  have hb := slb
  simp only [run_body, env0, List.map_cons, List.map_nil, List.length_cons, List.length_nil]
  simp
  rw [run_evS_same rfl]
  simp
  refine r_law_hall h h1 h2 fun n ts S1 hk hp1 => ?_
  have hn := hk.hi
  have ht3 := hk.t3
  have hpers : ∀ d ∈ (rng ts.length).map D.int, IsP ts d := fun d hd => by
    obtain ⟨x, hx, rfl⟩ := List.mem_map.mp hd
    obtain ⟨i, rfl, hi⟩ := rng_mem hx
    exact ⟨i, _, rfl, get_at hi⟩
  rw [run_evS_same rfl]
  simp [r_made hk hp1.tab]
  rw [run_evS_same rfl]
  simp
  rw [run_evS_same rfl]
  simp [r_lrD (show ts.length ≤ 100 by omega), setL]
  rw [run_evS_same rfl]
  simp
  refine r_law_lot hp1 hn fun one S2 hone hp2 => ?_
  rw [run_evS_same rfl]
  simp
  refine r_law_lot hp2 hn fun two S3 htwo hp3 => ?_
  simp [r_lots_right hk hone htwo]
  refine run_evL ?_
  simp [wipeE]
  have hlot := lot_of hn hone
  have erg : ∀ m : Nat, rgD 0 m = (List.range m).map fun i : Nat => D.int (i : Int) := fun m => by
    unfold rgD; exact List.map_congr_left fun i _ => by simp
  have h0n : 0 < n := by have := hk.lo; omega
  rw [show (rgD 0 (n + 1)).length = n + 1 by rw [rgD_length]]
  refine ⟨by omega, by omega, ?_⟩
  rw [erg]
  refine lcX (fun i : Nat => D.int (i : Int)) (fun _ => true) (fun i => lotD (akN n ts i one)) (fun i hi => ?_) ?_
  · have hi2 := List.mem_range.mp hi
    refine ⟨_, rfl, by simp, fun _ => ?_⟩
    simp [r_all_know hk hlot (show i ≤ 9 by omega)]
  rw [List.filter_eq_self.mpr fun _ _ => rfl]
  obtain ⟨R, hRd⟩ : ∃ R, R = (List.range (n + 1)).map fun i => lotD (akN n ts i one) := ⟨_, rfl⟩
  have hR : ∀ i : Nat, i ≤ n → atI R (i : Int) = some (lotD (akN n ts i one)) := fun i hi => idx_get (by rw [hRd, List.getElem?_map, List.getElem?_range (by omega)]; rfl)
  have hRl : R.length = n + 1 := by rw [hRd, List.length_map, List.length_range]
  rw [← hRd]
  refine ⟨by rw [hRd]; exact pures_all fun d hd => (by obtain ⟨i, _, rfl⟩ := List.mem_map.mp hd; exact pure_lot _), by omega, ?_⟩
  rw [rgD_rng]
  refine run_forL (fun rest e S4 => PoolOk l S4 ∧ ∃ (r : List Int) (o9 o10 o11 : Option Pm.Slot), rest = r.map .int ∧ (∀ c ∈ r, c ∈ rng n) ∧ e = [some (.val (.ref l)), some (.val (.lst [.int most, .int odd])), some (.val (dD n ts)), some (.val (hallD n ts)), some (.val (.int n)), some (.val (.lst ((rng ts.length).map .int))), some (.val (lotD one)), some (.val (lotD two)), some (.own R), o9, o10, o11, none, none, none, none, none, none, none]) _ ⟨hp3, rng n, _, _, _, rfl, fun c h => h, rfl⟩ ?_ ?_
  · rintro d r e S4 ⟨hp4, r2, o9, o10, o11, hr, hm, rfl⟩
    cases r2 with
    | nil => cases hr
    | cons c r2 =>
      rw [List.map_cons] at hr
      injection hr with e1 e2
      subst e1 e2
      have hc := hm c List.mem_cons_self
      have hm2 : ∀ x ∈ r2, x ∈ rng n := fun x hx => hm x (List.mem_cons_of_mem _ hx)
      refine ⟨_, rfl, ?_⟩
      have hR1 : atI R 1 = some (lotD (akN n ts 1 one)) := hR 1 (by omega)
      simp [setNS, hR1, wipeE]
      refine ⟨by rw [rng_len]; omega, ?_⟩
      refine lcA D.int (fun x => decide (c ∈ kn n (ts.getD x.toNat []) one)) (fun x hx => ?_) ?_
      · obtain ⟨i, rfl, hi⟩ := rng_mem hx
        refine ⟨_, rfl, by simp, ?_⟩
        simp [r_knows hk (get_at hi) hlot]
      · rw [run_all, rng_map ts [] fun t => decide (c ∈ kn n t one)]
        have e1 : (ts.map fun t => decide (c ∈ kn n t one)).all id = decide (c ∈ akN n ts 1 one) := by
          rw [List.all_map, show akN n ts 1 one = ak n ts one from rfl]
          unfold ak
          rw [Bool.eq_iff_iff, decide_eq_true_iff, List.mem_filter]
          exact ⟨fun h => ⟨hc, h⟩, fun h => h.2⟩
        rw [e1, e_neB]
        refine .inl ⟨by simp, ?_⟩
        refine run_evL ?_
        simp [wipeE]
        rw [erg]
        refine ⟨by omega, by rw [List.length_map, List.length_range]; omega, lcX (fun i : Nat => D.int (i : Int)) (fun i => decide (c ∈ akN n ts i one)) (fun i => D.int (i : Int)) (fun i hi => ?_) ?_⟩
        · have hi2 := List.mem_range.mp hi
          refine ⟨_, rfl, ?_, fun _ => by simp⟩
          simp [hR i (by omega)]
          by_cases hq : c ∈ akN n ts i one <;> simp [hq]
        · have hdm := dep_max hk hone hc
          have hMl : ((List.range (n + 1)).filter fun i => decide (c ∈ akN n ts i one)).length ≤ n + 1 := Nat.le_trans (List.length_filter_le _ _) (by rw [List.length_range]; exact Nat.le_refl _)
          generalize (List.range (n + 1)).filter (fun i => decide (c ∈ akN n ts i one)) = ML at hdm hMl ⊢
          refine ⟨pures_all fun d hd => (by obtain ⟨i, _, rfl⟩ := List.mem_map.mp hd; rfl), ?_⟩
          refine run_evS ?_
          simp
          refine r_for_ever hk hlot fun S5 hE5 => ?_
          by_cases hcf : c ∈ fe n ts one
          · have hdd : depD n ts one c = .non := if_pos hcf
            simp [hcf]
            refine ⟨rfl, r_depth hk hlot hc fun S6 hE6 => ?_⟩
            rw [hdd, e_neNN]
            exact .inl ⟨rfl, (hp4.ext hE5).ext hE6, r2, rfl, hm2⟩
          · have hdd : depD n ts one c = .int (dep n ts one c) := if_neg hcf
            simp [hcf]
            rw [run_addLL, show [D.int 0] ++ ML.map (fun i : Nat => D.int (i : Int)) = ((0 : Int) :: ML.map fun i : Nat => (i : Int)).map D.int by simp [Function.comp_def]]
            refine ⟨by simp; omega, ?_⟩
            rw [r_maxL (List.cons_ne_nil _ _), hdm hcf]
            refine ⟨rfl, r_depth hk hlot hc fun S6 hE6 => ?_⟩
            rw [hdd, e_neII]
            exact .inl ⟨rfl, (hp4.ext hE5).ext hE6, r2, rfl, hm2⟩
  · rintro e S4 ⟨hp4, r2, o9, o10, o11, hr, hm, rfl⟩
    dsimp only
    rw [run_frzO (ds := R) rfl]
    simp only [List.set_cons_succ, List.set_cons_zero]
    rw [run_frzV (d := .lst R) rfl]
    simp
    rw [cut_tail]
    have hR0 : atI R 0 = some (lotD one) := hR 0 (by omega)
    have hRn := hR n (by omega)
    have hRm : atI R ((n : Int) - 1) = some (lotD (akN n ts n one)) := by
      have := hR (n - 1) (by omega)
      have e1 := akN_stop hk h0n hone 1
      rw [show n - 1 + 1 = n by omega] at e1
      rw [e1, show (n : Int) - 1 = ((n - 1 : Nat) : Int) by omega]
      exact this
    have hzip : ∀ d ∈ (R.zip R.tail).map (fun p => D.tpl [p.1, p.2]), ∃ i, d = .tpl [lotD (akN n ts i one), lotD (akN n ts (i + 1) one)] := fun d hd => by
      obtain ⟨p, hp, rfl⟩ := List.mem_map.mp hd
      obtain ⟨i, hi⟩ := List.mem_iff_getElem?.mp hp
      rw [List.getElem?_zip_eq_some] at hi
      obtain ⟨q1, q2⟩ := hi
      rw [List.getElem?_tail] at q2
      rw [hRd] at q1 q2
      rw [List.getElem?_map] at q1 q2
      obtain ⟨x, hx, hx2⟩ := Option.map_eq_some_iff.mp q1
      obtain ⟨y, hy, hy2⟩ := Option.map_eq_some_iff.mp q2
      have ex := (List.getElem?_eq_some_iff.mp hx).2
      have ey := (List.getElem?_eq_some_iff.mp hy).2
      rw [List.getElem_range] at ex ey
      subst ex ey
      exact ⟨i, by rw [← hx2, ← hy2]⟩
    have hakl : ∀ i, (akN n ts i one).length ≤ n := fun i => by have := (akN_sub hone (ts := ts) i).length_le; rwa [rng_len] at this
    clear hRd
    generalize (R.zip R.tail).map (fun p => D.tpl [p.1, p.2]) = Z at hzip ⊢
    refine run_forL (fun rest e S5 => S5 = S4 ∧ (∀ d ∈ rest, ∃ i, d = .tpl [lotD (akN n ts i one), lotD (akN n ts (i + 1) one)]) ∧ ∃ (o12 o13 : Option Pm.Slot), e = [some (.val (.ref l)), some (.val (.lst [.int most, .int odd])), some (.val (dD n ts)), some (.val (hallD n ts)), some (.val (.int n)), some (.val (.lst ((rng ts.length).map .int))), some (.val (lotD one)), some (.val (lotD two)), some (.val (.lst R)), o9, o10, o11, o12, o13, none, none, none, none, none]) _ ⟨rfl, hzip, _, _, rfl⟩ ?_ ?_
    · rintro d r e S5 ⟨rfl, hz, o12, o13, rfl⟩
      obtain ⟨i, rfl⟩ := hz d List.mem_cons_self
      have hz2 := fun d hd => hz d (List.mem_cons_of_mem _ hd)
      refine ⟨_, rfl, ?_⟩
      have := hakl (i + 1)
      simp [wipeE]
      refine ⟨by omega, lc_all (fun x hx => ⟨_, rfl, by simp⟩) (fun x hx => akN_down hk 1 i hx) (.inr ⟨rfl, rfl, hz2⟩)⟩
    · rintro e S5 ⟨rfl, hz, o12, o13, rfl⟩
      simp [hR0, hRm, hRn, e_neL]
      refine r_for_ever hk hlot fun S6 hE6 => ?_
      rw [akN_fe hk h0n hone]
      simp [e_neL]
      have hp6 := hp4.ext hE6
      refine r_pieces hk fun S7 hE7 => ?_
      have hp7 := hp6.ext hE7
      simp
      have hpm : ∀ d ∈ (pcs n ts).map lotD, ∃ p ∈ pcs n ts, d = lotD p := fun d hd => by
        obtain ⟨p, hp, rfl⟩ := List.mem_map.mp hd
        exact ⟨p, hp, rfl⟩
      generalize (pcs n ts).map lotD = Z2 at hpm ⊢
      refine run_forL (fun rest e S8 => PoolOk l S8 ∧ (∀ d ∈ rest, ∃ p ∈ pcs n ts, d = lotD p) ∧ ∃ (o14 : Option Pm.Slot), e = [some (.val (.ref l)), some (.val (.lst [.int most, .int odd])), some (.val (dD n ts)), some (.val (hallD n ts)), some (.val (.int n)), some (.val (.lst ((rng ts.length).map .int))), some (.val (lotD one)), some (.val (lotD two)), some (.val (.lst R)), o9, o10, o11, o12, o13, o14, none, none, none, none]) _ ⟨hp7, hpm, _, rfl⟩ ?_ ?_
      · rintro d r e S8 ⟨hp8, hz, o14, rfl⟩
        obtain ⟨p, hp, rfl⟩ := hz d List.mem_cons_self
        have hz2 := fun d hd => hz d (List.mem_cons_of_mem _ hd)
        obtain ⟨x, m, hpx, hpl⟩ := piece_ne hp
        have hx0 : atI (p.map D.int) 0 = some (.int x) := by rw [hpx]; exact idx_get (i := 0) rfl
        refine ⟨_, rfl, ?_⟩
        simp [hx0, wipeE]
        refine r_for_ever hk hlot fun S9 hE9 => ?_
        simp
        refine ⟨by omega, ?_⟩
        refine lcA D.int (fun e => decide (e ∈ one)) (fun y hy => ⟨_, rfl, by simp, by simp⟩) ?_
        rw [run_all]
        have e1 : (p.map fun e => decide (e ∈ one)).all id = sub p one := by simp [sub, List.all_map]
        rw [e1, piece_fe hk hp (by rw [hpx]; exact List.mem_cons_self), e_neB]
        exact .inl ⟨by simp, hp8.ext hE9, hz2⟩
      · rintro e S8 ⟨hp8, hz, o14, rfl⟩
        simp
        refine r_pooled hk fun q1 => ?_
        have hp9 : PoolOk l (S8 ++ [q1]) := hp8.ext ⟨_, rfl⟩
        generalize S8 ++ [q1] = S9 at hp9 ⊢
        simp
        have hpm : ∀ d ∈ (pool n ts).map lotD, ∃ p ∈ pool n ts, d = lotD p := fun d hd => by
          obtain ⟨p, hp, rfl⟩ := List.mem_map.mp hd
          exact ⟨p, hp, rfl⟩
        generalize hZ3 : (pool n ts).map lotD = Z3 at hpm
        refine run_forL (fun rest e S8 => S8 = S9 ∧ (∀ d ∈ rest, ∃ p ∈ pool n ts, d = lotD p) ∧ ∃ (o15 o16 : Option Pm.Slot), e = [some (.val (.ref l)), some (.val (.lst [.int most, .int odd])), some (.val (dD n ts)), some (.val (hallD n ts)), some (.val (.int n)), some (.val (.lst ((rng ts.length).map .int))), some (.val (lotD one)), some (.val (lotD two)), some (.val (.lst R)), o9, o10, o11, o12, o13, o14, o15, o16, none, none]) _ ⟨rfl, hpm, _, _, rfl⟩ ?_ ?_
        · rintro d r e S10 ⟨rfl, hz, o15, o16, rfl⟩
          obtain ⟨p, hp, rfl⟩ := hz d List.mem_cons_self
          have hz2 := fun d hd => hz d (List.mem_cons_of_mem _ hd)
          obtain ⟨c, m, hpc, hcr, hpl, hpe⟩ := pool_in hk hp
          have hx0 : atI (p.map D.int) 0 = some (.int c) := by rw [hpc]; exact idx_get (i := 0) rfl
          refine ⟨_, rfl, ?_⟩
          simp [setNS]
          refine run_forL (fun rest e S11 => S11 = S10 ∧ (∀ d ∈ rest, IsP ts d) ∧ ∃ (o16 : Option Pm.Slot), e = [some (.val (.ref l)), some (.val (.lst [.int most, .int odd])), some (.val (dD n ts)), some (.val (hallD n ts)), some (.val (.int n)), some (.val (.lst ((rng ts.length).map .int))), some (.val (lotD one)), some (.val (lotD two)), some (.val (.lst R)), o9, o10, o11, o12, o13, o14, some (.val (lotD p)), o16, none, none]) _ ⟨rfl, hpers, _, rfl⟩ ?_ ?_
          · rintro d r' e S11 ⟨rfl, hq, p16, rfl⟩
            obtain ⟨i, t, rfl, hi⟩ := hq d List.mem_cons_self
            have hq2 := fun d hd => hq d (List.mem_cons_of_mem _ hd)
            refine ⟨_, rfl, ?_⟩
            simp [wipeE]
            refine ⟨by omega, lc_all (m := seenL t c) (fun x hx => ⟨_, rfl, ?_⟩) (fun x hx => (hpe x hx).2 t (List.mem_of_getElem? hi)) (.inr ⟨rfl, rfl, hq2⟩)⟩
            simp [hx0, r_seen hk hi hcr]
          · rintro e S11 ⟨rfl, hq, p16, rfl⟩
            exact ⟨rfl, hz2, _, _, rfl⟩
        · rintro e S10 ⟨rfl, hz, o15, o16, rfl⟩
          dsimp only
          refine run_evL ?_
          simp
          refine ⟨rfl, r_pooled hk fun q2 => ?_⟩
          have hp11 : PoolOk l (S10 ++ [q2]) := hp9.ext ⟨_, rfl⟩
          generalize S10 ++ [q2] = S11 at hp11 ⊢
          simp
          refine run_forL (fun rest e S12 => S12 = S11 ∧ ∃ (dn r : List (List Int)) (o15 : Option Pm.Slot), rest = r.map lotD ∧ pool n ts = dn ++ r ∧ e = [some (.val (.ref l)), some (.val (.lst [.int most, .int odd])), some (.val (dD n ts)), some (.val (hallD n ts)), some (.val (.int n)), some (.val (.lst ((rng ts.length).map .int))), some (.val (lotD one)), some (.val (lotD two)), some (.val (.lst R)), o9, o10, o11, o12, o13, o14, o15, o16, some (.own ((dn.flatMap fun p => p).map .int)), none]) _ ⟨rfl, [], pool n ts, _, rfl, rfl, rfl⟩ ?_ ?_
          · rintro d r e S12 ⟨rfl, dn, r2, p15, hr, hd, rfl⟩
            cases r2 with
            | nil => cases hr
            | cons p r2 =>
              rw [List.map_cons] at hr
              injection hr with e1 e2
              subst e1 e2
              have hlen : ∀ q ∈ pool n ts, q.length ≤ 6 := fun q hq => by
                obtain ⟨_, _, _, _, h, _⟩ := pool_in hk hq; omega
              have hpl2 := hlen p (by rw [hd]; simp)
              have hdl : dn.length ≤ 6 := by
                have h1 := congrArg List.length hd
                have h2 : (pool n ts).length ≤ n := by unfold pool; rw [List.length_map]; exact Nat.le_trans (List.length_filter_le _ _) (by rw [rng_len]; exact Nat.le_refl _)
                rw [List.length_append] at h1; omega
              have hfl : (dn.flatMap fun p => p).length ≤ dn.length * 6 := flat_len fun q hq => hlen q (by rw [hd]; simp [hq])
              have hnx : (List.map (List.map D.int) (dn ++ [p])).flatten = (dn.flatMap fun p => p).map D.int ++ p.map D.int := by simp
              generalize (dn.flatMap fun p => p) = DU at hfl hnx ⊢
              refine ⟨_, rfl, ?_⟩
              simp only [setNS, List.set_cons_succ, List.set_cons_zero, run_setM, run_ownM]
              refine run_evL ?_
              simp
              refine ⟨by omega, by rw [← List.map_append]; exact pures_int _, dn ++ [p], r2, rfl, by rw [hd]; simp, ?_⟩
              exact hnx.symm
          · rintro e S12 ⟨rfl, dn, r2, p15, hr, hd, rfl⟩
            cases r2 with
            | cons c r2 => cases hr
            | nil =>
              rw [List.append_nil] at hd
              subst hd
              have hs := pool_all (n := n) (ts := ts)
              generalize ((pool n ts).flatMap fun p => p) = X at hs
              simp [r_lrD (show n ≤ 100 by omega)]
              rw [hs, e_lst]
              exact k _ hp11
end Lw

set_option Elab.async false
set_option linter.all false
set_option maxRecDepth 100000
set_option maxHeartbeats 600000
/-! M52w: the law's pool; the law at all scripts. -/
namespace Lw
open PySem L2 Pm
variable {S : List O} {P : D → List O → Prop}
/-! the pool -/
@[simp] theorem r_sumL {l : List Int} : Run (sumD [.lst (l.map .int)]) S P ↔ P (.int l.sum) S := by
  refine run_eq ?_
  simp [sumD, listInts, ints_map, Pm.ret]
theorem hasTab_app {x : Str} {S : List O} {o : O} (h : hasTab x S = true) : hasTab x (S ++ [o]) = true := by
  unfold hasTab at h ⊢
  rw [List.any_append, h]; rfl
theorem pool_new {a b c : Int} (h : hasTab "wrong_telling" S = true) : PoolOk S.length (S ++ [.lst [.int a, .int b, .int c]]) :=
  ⟨hasTab_app h, a, b, c, by rw [List.getElem?_append_right (Nat.le_refl _), Nat.sub_self]; rfl⟩
theorem e_wide (env : Pm.Env) (S : List O) : (Pm.bin mulD (Pm.bin mulD (Pm.bin mulD (Pm.bin mulD (Pm.bin mulD (Pm.bin powD (cM (.int 10)) (cM (.int 64))) (Pm.bin powD (cM (.int 10)) (cM (.int 64)))) (Pm.bin powD (cM (.int 10)) (cM (.int 64)))) (Pm.bin powD (cM (.int 10)) (cM (.int 64)))) (Pm.bin powD (cM (.int 10)) (cM (.int 64)))) (Pm.bin powD (cM (.int 10)) (cM (.int 64)))) env S = some (.int (10 ^ 384), S) := by
  kernel_rfl
theorem r_law_pool {ns : List Int} {k : Nat} (hk : k ≤ 10) (hn : ns.length ≤ 63) (ht : hasTab "wrong_telling" S = true) (kk : ∀ (l : Nat) (S' : List O), PoolOk l S' → P (.ref l) S') : Run (C__law_pool [.scr ns, .int k]) S P := by
  unfold C__law_pool m__law_pool
  have hb := slb
  have c0 : CMul 977 (k : Int) := .inl ⟨by omega, by omega⟩
  simp only [run_body, env0, List.map_cons, List.map_nil, List.length_cons, List.length_nil]
  simp only [Nat.reduceAdd, Nat.reduceSub, List.replicate_succ, List.replicate_zero, List.cons_append, List.nil_append, run_seqM, run_parM, run_slsM, run_valM]
  rw [run_evS_same rfl]
  simp only [run_appA, run_consA, run_slM, run_getv, bor_val, bor_none, bor_nil, List.getElem?_cons_zero, List.getElem?_cons_succ, jS, Option.some.injEq, exists_eq_left', run_soM, run_asI, run_bin, run_cM, run_addI, run_cutS, run_nilM, r_sumL]
  rw [run_evS_same rfl]
  simp only [run_bin, run_cM, run_getv, bor_val, bor_none, bor_nil, List.getElem?_cons_zero, List.getElem?_cons_succ, jS, Option.some.injEq, exists_eq_left', run_mulI, run_addI, run_sl0M]
  refine ⟨.inl c0, _, rfl, ?_⟩
  simp only [run_setM, run_valM, List.set_cons_succ, List.set_cons_zero]
  rw [run_evS_same rfl]
  rw [run_eq (e_wide _ _)]
  generalize (cutG ns (some (k : Int)) (some ((k : Int) + 1))).sum = cell
  generalize (50021 + 977 * (k : Int)) = mixed
  have hw : (0 : Int) < 10 ^ 384 := by decide
  generalize (10 ^ 384 : Int) = wide at hw
  simp
  refine run_forL (fun rest e S1 => S1 = S ∧ (∀ d ∈ rest, ∃ x : Int, d = .int x) ∧ ∃ (mx : Int) (o5 : Option Slot), e = [some (.val (.scr ns)), some (.val (.int k)), some (.val (.int cell)), some (.val (.int mx)), some (.val (.int wide)), o5]) _ ⟨rfl, fun d hd => ?_, mixed, none, rfl⟩ ?_ ?_
  · obtain ⟨x, _, rfl⟩ := List.mem_map.mp hd
    exact ⟨x, rfl⟩
  · rintro d r e S1 ⟨rfl, hr, mx, o5, rfl⟩
    obtain ⟨x, rfl⟩ := hr d List.mem_cons_self
    refine ⟨_, rfl, ?_⟩
    have c1 : CMul mx 48271 := .inr ⟨by omega, by omega⟩
    have c2 : CMul (x % 2147483399) 19 := .inr ⟨by omega, by omega⟩
    simp
    rw [run_evS_same rfl]
    simp [c1, c2]
    exact fun d hd => hr d (List.mem_cons_of_mem _ hd)
  · rintro e S1 ⟨rfl, hr, mx, o5, rfl⟩
    simp
    have cp : CPow 10 18 := ⟨by omega, by omega, by decide⟩
    by_cases h1 : cell < 0
    · simp [h1, hw, D.pures, D.pure]
      exact .inr (kk _ _ (pool_new ht))
    · by_cases h2 : (1000000000000000000 : Int) ≤ cell
      · simp [h1, h2, hw, cp, D.pures, D.pure]
        exact ⟨by omega, .inr (kk _ _ (pool_new ht))⟩
      · simp [h1, h2, cp, D.pures, D.pure]
        exact ⟨by omega, by omega, kk _ _ (pool_new ht)⟩
theorem r_law {ns : List Int} (hn : ns.length ≤ 63) (ht : hasTab "wrong_telling" S = true) : Run (C_law [.scr ns]) S fun d _ => d = .bl true := by
  unfold C_law m_law
  simp only [run_body, env0, List.map_cons, List.map_nil, List.length_cons, List.length_nil]
  simp
  refine ⟨?_, ?_⟩
  · split <;> (try split) <;> omega
  refine run_forL (fun rest e S1 => hasTab "wrong_telling" S1 = true ∧ (∀ d ∈ rest, ∃ k : Nat, k ≤ 10 ∧ d = .int k) ∧ ∃ (o1 o2 o3 : Option Slot), e = [some (.val (.scr ns)), o1, o2, o3]) _ ⟨ht, ?_, none, none, none, rfl⟩ ?_ ?_
  · intro d hd
    have hd2 := hd
    unfold rgD at hd2
    obtain ⟨i, hi, rfl⟩ := List.mem_map.mp hd2
    have hi2 := List.mem_range.mp hi
    refine ⟨i, ?_, by simp⟩
    split at hi2 <;> (try split at hi2) <;> omega
  · rintro d r e S1 ⟨h1, hr, o1, o2, o3, rfl⟩
    obtain ⟨k, hk, rfl⟩ := hr d List.mem_cons_self
    have hr2 : ∀ d ∈ r, ∃ k : Nat, k ≤ 10 ∧ d = .int k := fun d hd => hr d (List.mem_cons_of_mem _ hd)
    refine ⟨_, rfl, ?_⟩
    simp
    refine run_evS ?_
    simp
    refine r_law_pool hk hn h1 fun l S2 hp => ?_
    refine ⟨rfl, ?_⟩
    refine run_forL (fun rest e S3 => PoolOk l S3 ∧ (∀ d ∈ rest, ∃ most odd : Int, 3 ≤ most ∧ most ≤ 6 ∧ d = .lst [.int most, .int odd]) ∧ ∃ (o3 : Option Slot), e = [some (.val (.scr ns)), some (.val (.int k)), some (.val (.ref l)), o3]) _ ⟨hp, ?_, o3, rfl⟩ ?_ ?_
    · intro d hd
      simp only [List.mem_cons, List.not_mem_nil, or_false] at hd
      rcases hd with rfl | rfl | rfl | rfl | rfl
      · exact ⟨6, 0, by omega, by omega, rfl⟩
      · exact ⟨6, 2, by omega, by omega, rfl⟩
      · exact ⟨5, 6, by omega, by omega, rfl⟩
      · exact ⟨4, 1, by omega, by omega, rfl⟩
      · exact ⟨3, 3, by omega, by omega, rfl⟩
    · rintro d r3 e S3 ⟨hp3, hq, o3, rfl⟩
      obtain ⟨most, odd, hm1, hm2, rfl⟩ := hq d List.mem_cons_self
      refine ⟨_, rfl, ?_⟩
      simp
      refine r_law_right hp3 hm1 hm2 fun S4 hp4 => ?_
      simp
      exact ⟨hp4, fun d hd => let ⟨m, o, a, b, c⟩ := hq d (List.mem_cons_of_mem _ hd); ⟨m, a, b, o, c⟩⟩
    · rintro e S3 ⟨hp3, hq, o3, rfl⟩
      exact ⟨hp3.tab, hr2, _, _, _, rfl⟩
  · rintro e S1 ⟨h1, hr, o1, o2, o3, rfl⟩
    simp
theorem law_true (ns : List Int) (hn : ns.length ≤ 63) : ∃ S', C_law [.scr ns] ((["wrong_telling"] : List Str).map O.tab) = some (.bl true, S') := by
  obtain ⟨d, S', e, rfl⟩ := r_law (S := (["wrong_telling"] : List Str).map O.tab) hn (by decide)
  exact ⟨S', e⟩
end Lw

open PySem PySem.W PyProof.Rows
set_option Elab.async false
set_option maxHeartbeats 0
open_top hd for PySem.Challenge.rw_priorhall_k52_whole_knowing_beside_piece
theorem PySem.Challenge.cw_priorhall_k52_whole_knowing_beside_piece_holds : PySem.Challenge.rw_priorhall_k52_whole_knowing_beside_piece.Holds :=
  hd (by
  k_fill
  refine Pm.law_endT (l := PySem.Challenge.rw_priorhall_k52_whole_knowing_beside_piece) (n := 63) (k := 15) (x := "script") (C := Lw.C_law) ["wrong_telling"] rfl (by decide) rfl ⟨rfl, by decide, by decide⟩ (by decide +kernel) (fun w h Y => PySem.W.km_in_of Y) ?F Lw.law_true
  case F =>
    intro w mg fa h KX G hmg
    refine' Lw.all_mk KX G hmg ?a_is_whole ?l_is_whole ?e_is_whole ?k_is_whole ?a_is_number ?l_is_number ?e_is_number ?k_is_number ?t_is_number ?a_is_between ?l_is_between ?e_is_between ?k_is_between ?a_is_tuple_of ?l_is_tuple_of ?e_is_tuple_of ?k_is_tuple_of ?a_is_row ?l_is_row ?e_is_row ?k_is_row ?a_first_wrong ?l_first_wrong ?e_first_wrong ?k_first_wrong ?a_lowest ?l_lowest ?e_lowest ?k_lowest ?a_is_fraction ?l_is_fraction ?e_is_fraction ?k_is_fraction ?a_plus ?l_plus ?e_plus ?k_plus ?a_times ?l_times ?e_times ?k_times ?a_divided ?l_divided ?e_divided ?k_divided ?a_sum_of ?l_sum_of ?e_sum_of ?k_sum_of ?a_is_cases ?l_is_cases ?e_is_cases ?k_is_cases ?a_is_lot_of ?l_is_lot_of ?e_is_lot_of ?k_is_lot_of ?a_are_chances ?l_are_chances ?e_are_chances ?k_are_chances ?a_is_part ?l_is_part ?e_is_part ?k_is_part ?a_is_telling ?l_is_telling ?e_is_telling ?k_is_telling ?a_wrong_telling ?l_wrong_telling ?e_wrong_telling ?k_wrong_telling ?a_check_tellings ?l_check_tellings ?e_check_tellings ?k_check_tellings ?l_Hall_init ?e_Hall_init ?k_Hall_init ?a_check_hall ?l_check_hall ?e_check_hall ?k_check_hall ?a_cases_of ?l_cases_of ?e_cases_of ?k_cases_of ?a_persons_of ?l_persons_of ?e_persons_of ?k_persons_of ?a_is_case ?l_is_case ?e_is_case ?k_is_case ?a_check_case ?l_check_case ?e_check_case ?k_check_case ?a_is_person ?l_is_person ?e_is_person ?k_is_person ?a_check_person ?l_check_person ?e_check_person ?k_check_person ?a_is_lot ?l_is_lot ?e_is_lot ?k_is_lot ?a_check_lot ?l_check_lot ?e_check_lot ?k_check_lot ?a_part_at ?l_part_at ?e_part_at ?k_part_at ?a_seen_by ?l_seen_by ?e_seen_by ?k_seen_by ?a_told_of ?l_told_of ?e_told_of ?k_told_of ?a_seen ?l_seen ?e_seen ?k_seen ?a_tied_with ?l_tied_with ?e_tied_with ?k_tied_with ?a_quotient ?l_quotient ?e_quotient ?k_quotient ?l_Tree_init ?e_Tree_init ?k_Tree_init ?a_pieces_by ?l_pieces_by ?e_pieces_by ?k_pieces_by ?a_pieces ?l_pieces ?e_pieces ?k_pieces ?a_is_within ?l_is_within ?e_is_within ?k_is_within ?a_knows_by ?l_knows_by ?e_knows_by ?k_knows_by ?a_all_know_once ?l_all_know_once ?e_all_know_once ?k_all_know_once ?a_all_know_by ?l_all_know_by ?e_all_know_by ?k_all_know_by ?a_for_ever_by ?l_for_ever_by ?e_for_ever_by ?k_for_ever_by ?a_depth_by ?l_depth_by ?e_depth_by ?k_depth_by ?a_pooled_by ?l_pooled_by ?e_pooled_by ?k_pooled_by ?a_is_finer_by ?l_is_finer_by ?e_is_finer_by ?k_is_finer_by ?a_is_times ?l_is_times ?e_is_times ?k_is_times ?a_check_known ?l_check_known ?e_check_known ?k_check_known ?a_knows ?l_knows ?e_knows ?k_knows ?a_all_know ?l_all_know ?e_all_know ?k_all_know ?a_for_ever ?l_for_ever ?e_for_ever ?k_for_ever ?a_depth ?l_depth ?e_depth ?k_depth ?a_pooled ?l_pooled ?e_pooled ?k_pooled ?a_is_finer ?l_is_finer ?e_is_finer ?k_is_finer ?a__law_pool ?l__law_pool ?e__law_pool ?k__law_pool ?a__law_take ?l__law_take ?e__law_take ?k__law_take ?a__law_of ?l__law_of ?e__law_of ?k__law_of ?a__law_lowest ?l__law_lowest ?e__law_lowest ?k__law_lowest ?a__law_parts ?l__law_parts ?e__law_parts ?k__law_parts ?a__law_hall ?l__law_hall ?e__law_hall ?k__law_hall ?a__law_made ?l__law_made ?e__law_made ?k__law_made ?a__law_lot ?l__law_lot ?e__law_lot ?k__law_lot ?a__law_lots_right ?l__law_lots_right ?e__law_lots_right ?k__law_lots_right ?a__law_right ?l__law_right ?e__law_right ?k__law_right ?a_law ?l_law ?e_law ?k_law ?a_ZERO ?l_ZERO ?a_FEWEST_CASES ?a_MOST_CASES ?a_ONE ?l_ONE ?a_MOST_PERSONS ?a_MOST_TIMES ?a_Hall ?pg_Hall ?hd_Hall ?po_Hall ?sa_Hall ?a_Tree ?pg_Tree ?hd_Tree ?po_Tree ?sa_Tree ?na_Hall_cases ?na_Hall_tellings ?na_Tree_back ?na_Tree_weights ?na_Tree_odd ?mk_Tree ?mi_Tree ?mf_Tree ?mp_Tree ?mk_Hall ?mi_Hall ?mf_Hall ?mp_Hall ?ia_Hall ?in_Hall ?it_Hall ?im_Hall ?ie_Hall ?io_Hall_NoneType ?io_Hall_bool ?io_Hall_int ?io_Hall_str ?io_Hall_tuple ?io_Hall_list ?io_Hall_dict ?ti_wrong_telling ?th_wrong_telling ?tn_wrong_telling ?z_len ?z_range ?z_zip ?z_enumerate ?z_tuple ?z_list ?z_int ?z_bool ?z_str ?z_sum ?z_all ?z_any ?z_sorted ?z_abs ?z_max ?z_min ?z_divmod ?z_repr ?z_isinstance ?z_dict ?z_gcd
    (case a_is_whole => first | k_is | kernel_rfl); (case a_is_number => first | k_is | kernel_rfl); (case a_is_between => first | k_is | kernel_rfl); (case a_is_tuple_of => first | k_is | kernel_rfl); (case a_is_row => first | k_is | kernel_rfl); (case a_first_wrong => first | k_is | kernel_rfl); (case a_lowest => first | k_is | kernel_rfl); (case a_is_fraction => first | k_is | kernel_rfl); (case a_plus => first | k_is | kernel_rfl); (case a_times => first | k_is | kernel_rfl); (case a_divided => first | k_is | kernel_rfl); (case a_sum_of => first | k_is | kernel_rfl); (case a_is_cases => first | k_is | kernel_rfl); (case a_is_lot_of => first | k_is | kernel_rfl); (case a_are_chances => first | k_is | kernel_rfl); (case a_is_part => first | k_is | kernel_rfl); (case a_is_telling => first | k_is | kernel_rfl); (case a_wrong_telling => first | k_is | kernel_rfl); (case a_check_tellings => first | k_is | kernel_rfl); (case a_check_hall => first | k_is | kernel_rfl); (case a_cases_of => first | k_is | kernel_rfl); (case a_persons_of => first | k_is | kernel_rfl); (case a_is_case => first | k_is | kernel_rfl); (case a_check_case => first | k_is | kernel_rfl); (case a_is_person => first | k_is | kernel_rfl); (case a_check_person => first | k_is | kernel_rfl); (case a_is_lot => first | k_is | kernel_rfl); (case a_check_lot => first | k_is | kernel_rfl); (case a_part_at => first | k_is | kernel_rfl); (case a_seen_by => first | k_is | kernel_rfl); (case a_told_of => first | k_is | kernel_rfl); (case a_seen => first | k_is | kernel_rfl); (case a_tied_with => first | k_is | kernel_rfl); (case a_quotient => first | k_is | kernel_rfl); (case a_pieces_by => first | k_is | kernel_rfl); (case a_pieces => first | k_is | kernel_rfl); (case a_is_within => first | k_is | kernel_rfl); (case a_knows_by => first | k_is | kernel_rfl); (case a_all_know_once => first | k_is | kernel_rfl); (case a_all_know_by => first | k_is | kernel_rfl); (case a_for_ever_by => first | k_is | kernel_rfl); (case a_depth_by => first | k_is | kernel_rfl); (case a_pooled_by => first | k_is | kernel_rfl); (case a_is_finer_by => first | k_is | kernel_rfl); (case a_is_times => first | k_is | kernel_rfl); (case a_check_known => first | k_is | kernel_rfl); (case a_knows => first | k_is | kernel_rfl); (case a_all_know => first | k_is | kernel_rfl); (case a_for_ever => first | k_is | kernel_rfl); (case a_depth => first | k_is | kernel_rfl); (case a_pooled => first | k_is | kernel_rfl); (case a_is_finer => first | k_is | kernel_rfl); (case a__law_pool => first | k_is | kernel_rfl); (case a__law_take => first | k_is | kernel_rfl); (case a__law_of => first | k_is | kernel_rfl); (case a__law_lowest => first | k_is | kernel_rfl); (case a__law_parts => first | k_is | kernel_rfl); (case a__law_hall => first | k_is | kernel_rfl); (case a__law_made => first | k_is | kernel_rfl); (case a__law_lot => first | k_is | kernel_rfl); (case a__law_lots_right => first | k_is | kernel_rfl); (case a__law_right => first | k_is | kernel_rfl); (case a_law => first | k_is | kernel_rfl); (case a_ZERO => first | k_is | kernel_rfl); (case a_FEWEST_CASES => first | k_is | kernel_rfl); (case a_MOST_CASES => first | k_is | kernel_rfl); (case a_ONE => first | k_is | kernel_rfl); (case a_MOST_PERSONS => first | k_is | kernel_rfl); (case a_MOST_TIMES => first | k_is | kernel_rfl); (case a_Hall => first | k_is | kernel_rfl); (case a_Tree => first | k_is | kernel_rfl); (case mi_Tree => first | k_is | kernel_rfl); (case mi_Hall => first | k_is | kernel_rfl); (case l_is_whole => first | k_is | kernel_rfl); (case e_is_whole => first | k_is | kernel_rfl); (case k_is_whole => first | k_is | kernel_rfl); (case l_is_number => first | k_is | kernel_rfl); (case e_is_number => first | k_is | kernel_rfl); (case k_is_number => first | k_is | kernel_rfl); (case t_is_number => first | k_is | kernel_rfl); (case l_is_between => first | k_is | kernel_rfl); (case e_is_between => first | k_is | kernel_rfl); (case k_is_between => first | k_is | kernel_rfl); (case l_is_tuple_of => first | k_is | kernel_rfl); (case e_is_tuple_of => first | k_is | kernel_rfl); (case k_is_tuple_of => first | k_is | kernel_rfl); (case l_is_row => first | k_is | kernel_rfl); (case e_is_row => first | k_is | kernel_rfl); (case k_is_row => first | k_is | kernel_rfl); (case l_first_wrong => first | k_is | kernel_rfl); (case e_first_wrong => first | k_is | kernel_rfl); (case k_first_wrong => first | k_is | kernel_rfl); (case l_lowest => first | k_is | kernel_rfl); (case e_lowest => first | k_is | kernel_rfl); (case k_lowest => first | k_is | kernel_rfl); (case l_is_fraction => first | k_is | kernel_rfl); (case e_is_fraction => first | k_is | kernel_rfl); (case k_is_fraction => first | k_is | kernel_rfl); (case l_plus => first | k_is | kernel_rfl); (case e_plus => first | k_is | kernel_rfl); (case k_plus => first | k_is | kernel_rfl); (case l_times => first | k_is | kernel_rfl); (case e_times => first | k_is | kernel_rfl); (case k_times => first | k_is | kernel_rfl); (case l_divided => first | k_is | kernel_rfl); (case e_divided => first | k_is | kernel_rfl); (case k_divided => first | k_is | kernel_rfl); (case l_sum_of => first | k_is | kernel_rfl); (case e_sum_of => first | k_is | kernel_rfl); (case k_sum_of => first | k_is | kernel_rfl); (case l_is_cases => first | k_is | kernel_rfl); (case e_is_cases => first | k_is | kernel_rfl); (case k_is_cases => first | k_is | kernel_rfl); (case l_is_lot_of => first | k_is | kernel_rfl); (case e_is_lot_of => first | k_is | kernel_rfl); (case k_is_lot_of => first | k_is | kernel_rfl); (case l_are_chances => first | k_is | kernel_rfl); (case e_are_chances => first | k_is | kernel_rfl); (case k_are_chances => first | k_is | kernel_rfl); (case l_is_part => first | k_is | kernel_rfl); (case e_is_part => first | k_is | kernel_rfl); (case k_is_part => first | k_is | kernel_rfl); (case l_is_telling => first | k_is | kernel_rfl); (case e_is_telling => first | k_is | kernel_rfl); (case k_is_telling => first | k_is | kernel_rfl); (case l_wrong_telling => first | k_is | kernel_rfl); (case e_wrong_telling => first | k_is | kernel_rfl); (case k_wrong_telling => first | k_is | kernel_rfl); (case l_check_tellings => first | k_is | kernel_rfl); (case e_check_tellings => first | k_is | kernel_rfl); (case k_check_tellings => first | k_is | kernel_rfl); (case l_Hall_init => first | k_is | kernel_rfl); (case e_Hall_init => first | k_is | kernel_rfl); (case k_Hall_init => first | k_is | kernel_rfl); (case l_check_hall => first | k_is | kernel_rfl); (case e_check_hall => first | k_is | kernel_rfl); (case k_check_hall => first | k_is | kernel_rfl); (case l_cases_of => first | k_is | kernel_rfl); (case e_cases_of => first | k_is | kernel_rfl); (case k_cases_of => first | k_is | kernel_rfl); (case l_persons_of => first | k_is | kernel_rfl); (case e_persons_of => first | k_is | kernel_rfl); (case k_persons_of => first | k_is | kernel_rfl); (case l_is_case => first | k_is | kernel_rfl); (case e_is_case => first | k_is | kernel_rfl); (case k_is_case => first | k_is | kernel_rfl); (case l_check_case => first | k_is | kernel_rfl); (case e_check_case => first | k_is | kernel_rfl); (case k_check_case => first | k_is | kernel_rfl); (case l_is_person => first | k_is | kernel_rfl); (case e_is_person => first | k_is | kernel_rfl); (case k_is_person => first | k_is | kernel_rfl); (case l_check_person => first | k_is | kernel_rfl); (case e_check_person => first | k_is | kernel_rfl); (case k_check_person => first | k_is | kernel_rfl); (case l_is_lot => first | k_is | kernel_rfl); (case e_is_lot => first | k_is | kernel_rfl); (case k_is_lot => first | k_is | kernel_rfl); (case l_check_lot => first | k_is | kernel_rfl); (case e_check_lot => first | k_is | kernel_rfl); (case k_check_lot => first | k_is | kernel_rfl); (case l_part_at => first | k_is | kernel_rfl); (case e_part_at => first | k_is | kernel_rfl); (case k_part_at => first | k_is | kernel_rfl); (case l_seen_by => first | k_is | kernel_rfl); (case e_seen_by => first | k_is | kernel_rfl); (case k_seen_by => first | k_is | kernel_rfl); (case l_told_of => first | k_is | kernel_rfl); (case e_told_of => first | k_is | kernel_rfl); (case k_told_of => first | k_is | kernel_rfl); (case l_seen => first | k_is | kernel_rfl); (case e_seen => first | k_is | kernel_rfl); (case k_seen => first | k_is | kernel_rfl); (case l_tied_with => first | k_is | kernel_rfl); (case e_tied_with => first | k_is | kernel_rfl); (case k_tied_with => first | k_is | kernel_rfl); (case l_quotient => first | k_is | kernel_rfl); (case e_quotient => first | k_is | kernel_rfl); (case k_quotient => first | k_is | kernel_rfl); (case l_Tree_init => first | k_is | kernel_rfl); (case e_Tree_init => first | k_is | kernel_rfl); (case k_Tree_init => first | k_is | kernel_rfl); (case l_pieces_by => first | k_is | kernel_rfl); (case e_pieces_by => first | k_is | kernel_rfl); (case k_pieces_by => first | k_is | kernel_rfl); (case l_pieces => first | k_is | kernel_rfl); (case e_pieces => first | k_is | kernel_rfl); (case k_pieces => first | k_is | kernel_rfl); (case l_is_within => first | k_is | kernel_rfl); (case e_is_within => first | k_is | kernel_rfl); (case k_is_within => first | k_is | kernel_rfl); (case l_knows_by => first | k_is | kernel_rfl); (case e_knows_by => first | k_is | kernel_rfl); (case k_knows_by => first | k_is | kernel_rfl); (case l_all_know_once => first | k_is | kernel_rfl); (case e_all_know_once => first | k_is | kernel_rfl); (case k_all_know_once => first | k_is | kernel_rfl); (case l_all_know_by => first | k_is | kernel_rfl); (case e_all_know_by => first | k_is | kernel_rfl); (case k_all_know_by => first | k_is | kernel_rfl); (case l_for_ever_by => first | k_is | kernel_rfl); (case e_for_ever_by => first | k_is | kernel_rfl); (case k_for_ever_by => first | k_is | kernel_rfl); (case l_depth_by => first | k_is | kernel_rfl); (case e_depth_by => first | k_is | kernel_rfl); (case k_depth_by => first | k_is | kernel_rfl); (case l_pooled_by => first | k_is | kernel_rfl); (case e_pooled_by => first | k_is | kernel_rfl); (case k_pooled_by => first | k_is | kernel_rfl); (case l_is_finer_by => first | k_is | kernel_rfl); (case e_is_finer_by => first | k_is | kernel_rfl); (case k_is_finer_by => first | k_is | kernel_rfl); (case l_is_times => first | k_is | kernel_rfl); (case e_is_times => first | k_is | kernel_rfl); (case k_is_times => first | k_is | kernel_rfl); (case l_check_known => first | k_is | kernel_rfl); (case e_check_known => first | k_is | kernel_rfl); (case k_check_known => first | k_is | kernel_rfl); (case l_knows => first | k_is | kernel_rfl); (case e_knows => first | k_is | kernel_rfl); (case k_knows => first | k_is | kernel_rfl); (case l_all_know => first | k_is | kernel_rfl); (case e_all_know => first | k_is | kernel_rfl); (case k_all_know => first | k_is | kernel_rfl); (case l_for_ever => first | k_is | kernel_rfl); (case e_for_ever => first | k_is | kernel_rfl); (case k_for_ever => first | k_is | kernel_rfl); (case l_depth => first | k_is | kernel_rfl); (case e_depth => first | k_is | kernel_rfl); (case k_depth => first | k_is | kernel_rfl); (case l_pooled => first | k_is | kernel_rfl); (case e_pooled => first | k_is | kernel_rfl); (case k_pooled => first | k_is | kernel_rfl); (case l_is_finer => first | k_is | kernel_rfl); (case e_is_finer => first | k_is | kernel_rfl); (case k_is_finer => first | k_is | kernel_rfl); (case l__law_pool => first | k_is | kernel_rfl); (case e__law_pool => first | k_is | kernel_rfl); (case k__law_pool => first | k_is | kernel_rfl); (case l__law_take => first | k_is | kernel_rfl); (case e__law_take => first | k_is | kernel_rfl); (case k__law_take => first | k_is | kernel_rfl); (case l__law_of => first | k_is | kernel_rfl); (case e__law_of => first | k_is | kernel_rfl); (case k__law_of => first | k_is | kernel_rfl); (case l__law_lowest => first | k_is | kernel_rfl); (case e__law_lowest => first | k_is | kernel_rfl); (case k__law_lowest => first | k_is | kernel_rfl); (case l__law_parts => first | k_is | kernel_rfl); (case e__law_parts => first | k_is | kernel_rfl); (case k__law_parts => first | k_is | kernel_rfl); (case l__law_hall => first | k_is | kernel_rfl); (case e__law_hall => first | k_is | kernel_rfl); (case k__law_hall => first | k_is | kernel_rfl); (case l__law_made => first | k_is | kernel_rfl); (case e__law_made => first | k_is | kernel_rfl); (case k__law_made => first | k_is | kernel_rfl); (case l__law_lot => first | k_is | kernel_rfl); (case e__law_lot => first | k_is | kernel_rfl); (case k__law_lot => first | k_is | kernel_rfl); (case l__law_lots_right => first | k_is | kernel_rfl); (case e__law_lots_right => first | k_is | kernel_rfl); (case k__law_lots_right => first | k_is | kernel_rfl); (case l__law_right => first | k_is | kernel_rfl); (case e__law_right => first | k_is | kernel_rfl); (case k__law_right => first | k_is | kernel_rfl); (case l_law => first | k_is | kernel_rfl); (case e_law => first | k_is | kernel_rfl); (case k_law => first | k_is | kernel_rfl); (case l_ZERO => first | k_is | kernel_rfl); (case l_ONE => first | k_is | kernel_rfl); (case pg_Hall => first | k_is | kernel_rfl); (case hd_Hall => first | k_is | kernel_rfl); (case po_Hall => first | k_is | kernel_rfl); (case sa_Hall => first | k_is | kernel_rfl); (case pg_Tree => first | k_is | kernel_rfl); (case hd_Tree => first | k_is | kernel_rfl); (case po_Tree => first | k_is | kernel_rfl); (case sa_Tree => first | k_is | kernel_rfl); (case na_Hall_cases => first | k_is | kernel_rfl); (case na_Hall_tellings => first | k_is | kernel_rfl); (case na_Tree_back => first | k_is | kernel_rfl); (case na_Tree_weights => first | k_is | kernel_rfl); (case na_Tree_odd => first | k_is | kernel_rfl); (case mk_Tree => first | k_is | kernel_rfl); (case mf_Tree => first | k_is | kernel_rfl); (case mp_Tree => first | k_is | kernel_rfl); (case mk_Hall => first | k_is | kernel_rfl); (case mf_Hall => first | k_is | kernel_rfl); (case mp_Hall => first | k_is | kernel_rfl); (case ia_Hall => first | k_is | kernel_rfl); (case in_Hall => first | k_is | kernel_rfl); (case it_Hall => first | k_is | kernel_rfl); (case im_Hall => first | k_is | kernel_rfl); (case ie_Hall => first | k_is | kernel_rfl); (case io_Hall_NoneType => first | k_is | kernel_rfl); (case io_Hall_bool => first | k_is | kernel_rfl); (case io_Hall_int => first | k_is | kernel_rfl); (case io_Hall_str => first | k_is | kernel_rfl); (case io_Hall_tuple => first | k_is | kernel_rfl); (case io_Hall_list => first | k_is | kernel_rfl); (case io_Hall_dict => first | k_is | kernel_rfl); (case ti_wrong_telling => exact rfl); (case th_wrong_telling => kernel_rfl); (case tn_wrong_telling => first | k_is | kernel_rfl); (case z_len => first | k_is | kernel_rfl); (case z_range => first | k_is | kernel_rfl); (case z_zip => first | k_is | kernel_rfl); (case z_enumerate => first | k_is | kernel_rfl); (case z_tuple => first | k_is | kernel_rfl); (case z_list => first | k_is | kernel_rfl); (case z_int => first | k_is | kernel_rfl); (case z_bool => first | k_is | kernel_rfl); (case z_str => first | k_is | kernel_rfl); (case z_sum => first | k_is | kernel_rfl); (case z_all => first | k_is | kernel_rfl); (case z_any => first | k_is | kernel_rfl); (case z_sorted => first | k_is | kernel_rfl); (case z_abs => first | k_is | kernel_rfl); (case z_max => first | k_is | kernel_rfl); (case z_min => first | k_is | kernel_rfl); (case z_divmod => first | k_is | kernel_rfl); (case z_repr => first | k_is | kernel_rfl); (case z_isinstance => first | k_is | kernel_rfl); (case z_dict => first | k_is | kernel_rfl); (case z_gcd => first | k_is | kernel_rfl))
