import PyProof.Rows.All
import Wide.All
import OpenK.AllK
import Wide.FinOn
import HandS.ForMost
import HandS.TupAny
import HandS.Conv
import HandS.Style
import HandS.Deep
import HandS.NoneIn
import HandS.IsInst
import HandS.SortInts
import KE.SortUse
import KE.DataFind
import PyProof.SeqIndex
import HandS.SetFor
import HandS.More
import KE.DataEq
import HandS.TupSets
import KE.KeyNested
import HandS.Dict
import HandS.Strs
import HandS.Set
import PyProof.Rows.ListMul
import PyProof.Rows.ListMulArg
import PyProof.WalksMore
import PyProof.Rows.SumAny
import PySem.Challenge.RW_basewright_k59_whole_rows_of_scores
set_option Elab.async false
set_option linter.all false
set_option maxRecDepth 100000
namespace DL
open PySem PySem.Spec PyProof.Rows L2
/-! tuples that are known to have no dict of their own -/
section
variable {X : Cx} {es : List Expr} {pos : Pos} {t : TA} {te : TE}
def newT (H : Hp) (xs : List V) (Q : VK) : Prop := ∀ p o, H p = none → o.dict = none → Q (.ref p) (upd H p (.frz o (.tup xs)))
theorem _root_.L2.Inv.newT {pins : List (Addr × Obj)} {σ : L2.St} {H : Hp} {s : Shared} {xs : List V} {its : List Value} {Q : VK} {tk : Nat} (I : Inv X pins σ H s) (hz : xs.length ≤ sizeLine) (r : Vals xs its) (q : newT H xs Q) :
    EP X pins σ Q (.ref s.heap.objs.size) { s with heap := s.heap.push { cls := .type "tuple", data := .seq its.toArray }, toks := tk } := by
  refine ⟨.ref s.heap.objs.size, upd H s.heap.objs.size (.frz { cls := .type "tuple", data := .seq its.toArray } (.tup xs)), I.laid (t' := tk) (fun b u e => Heap.get?_push_of_some _ e) (Nat.le_refl _) ?_, rfl, q _ _ (I.hok.fresh (Nat.le_refl _)) rfl⟩
  exact ⟨Heap.get?_push_size _ rfl, hz, its, r, IsTup.new _ _⟩
def tTupF (t : TA) : TE := fun σ H Q => t σ H fun xs H1 => xs.length ≤ sizeLine ∧ newT H1 xs Q
theorem pe_tupF {x1} (h : PA X es t) : PE X (.Tuple es x1 pos) (tTupF t) := by
  refine ⟨fun pins s σ H Q I hq => ?_⟩
  refine wpAny_Tuple_spliced (thn (h.run pos pins s σ H _ I hq) fun us s1 ⟨xs, H1, I1, r, z, q⟩ => ⟨by rw [← r.length]; exact z, ?_⟩)
  exact I1.newT (tk := s1.toks) z r q
def rCatF (K : PySem.W.Frag) : R2 := fun x y H Q => ∃ a b xs ys, x = .ref a ∧ y = .ref b ∧ SqT K H a xs ∧ SqT K H b ys ∧ xs.length + ys.length ≤ sizeLine ∧
  (xs = [] → Q (.ref b) H) ∧ (xs ≠ [] → ys = [] → Q (.ref a) H) ∧ (xs ≠ [] → ys ≠ [] → newT H (xs ++ ys) Q)
theorem op_catF : OpR X (binaryOp .Add) (rCatF X.K) := by
  intro pins s σ H x y v u Q I rx ry h
  obtain ⟨a, b, xs, ys, rfl, rfl, ha, hb, hz, q0, q1, q2⟩ := h
  cases rx
  cases ry
  obtain ⟨its, r1, p1, _⟩ := I.tuple ha
  obtain ⟨its2, r2, p2, _⟩ := I.tuple hb
  by_cases hx : xs = []
  · subst hx
    cases r1
    exact cat_tup0 p1 p2 ⟨.ref b, H, I, rfl, q0 rfl⟩
  · refine HT.cat_tup p1 p2 (fun z => hx (r1.nil_iff.mp z)) (fun z => ⟨.ref a, H, I, rfl, q1 hx (r2.nil_iff.mp z)⟩) (fun z => ?_) (by rw [← r1.length, ← r2.length]; exact hz)
    exact I.newT (tk := s.toks) (by rw [List.length_append]; exact hz) (r1.append r2) (q2 hx fun w => z (r2.nil_iff.mpr w))
def rSlF (K : PySem.W.Frag) : V → Option Int → Option Int → Hp → VK → Prop := fun x lo hi H Q => ∃ a xs, x = .ref a ∧ SqT K H a xs ∧
  (HT.sIx xs.length 0 lo = 0 ∧ HT.sIx xs.length xs.length hi = xs.length → Q (.ref a) H) ∧ (¬ (HT.sIx xs.length 0 lo = 0 ∧ HT.sIx xs.length xs.length hi = xs.length) → newT H (cutV xs lo hi) Q)
theorem sl_tupF : SlR X (rSlF X.K) := by
  intro pins s σ H x v vl vu lo hi sl Q I rx hs pl pu h
  obtain ⟨a, xs, rfl, hx, q1, q2⟩ := h
  cases rx
  obtain ⟨its, r, ht, hz⟩ := I.tuple hx
  have hlen : its.toArray.size = xs.length := by rw [List.size_toArray]; exact r.length.symm
  refine ⟨"tuple", _, PyProof.Rows.slot_tuple_getitem.lookup, ht.typeIs, ?_⟩
  by_cases hw : HT.sIx xs.length 0 lo = 0 ∧ HT.sIx xs.length xs.length hi = xs.length
  · exact getItem_tuple_whole ht hs pl pu (by rw [hlen]; exact hw) ⟨.ref a, H, I, rfl, q1 hw⟩
  · refine HT.getItem_tuple_cut ht hs pl pu (by rw [hlen]; exact hw) ?_ (by rw [hlen]; exact hz)
    rw [hlen]
    exact I.newT (tk := s.toks) (Nat.le_trans (cutV_length xs lo hi) hz) ((r.drop (HT.sIx xs.length 0 lo)).take (HT.sIx xs.length xs.length hi - HT.sIx xs.length 0 lo)) (q2 hw)
/-- tuple(x) -/
def rTupOf (K : PySem.W.Frag) : List V → Hp → VK → Prop := fun vs H Q =>
  (∃ p xs, vs = [.ref p] ∧ SqL K H p xs ∧ newT H xs Q) ∨ (∃ p xs, vs = [.ref p] ∧ SqT K H p xs ∧ Q (.ref p) H)
theorem cr_tupOf : CallR X (.type "tuple") (rTupOf X.K) := by
  intro pins s σ H xs us Q I r h
  rcases h with ⟨p, xs, rfl, hs, q⟩ | ⟨p, xs, rfl, hs, q⟩
  · obtain ⟨v, rfl, rv0⟩ := Vals.one r
    obtain rfl : v = .ref p := rv0
    obtain ⟨its, rv, pl, hz⟩ := I.list hs
    refine call_tuple_list pl.isList (fun h' hk => ?_) (by rw [List.size_toArray, ← rv.length]; exact hz)
    have I1 : Inv X pins σ H { s with heap := h' } := I.kept (t' := s.toks) hk
    exact I1.newT (tk := s.toks) hz rv q
  · obtain ⟨v, rfl, rv0⟩ := Vals.one r
    obtain rfl : v = .ref p := rv0
    obtain ⟨its, rv, pl, hz⟩ := I.tuple hs
    exact call_tuple_tup pl ⟨.ref p, H, I, rfl, q⟩
def tTupRgF (te : L2.St → Hp → (Int → Int → Hp → Prop) → Prop) : TE := fun σ H Q => te σ H fun a b H1 => RgOk a b ∧ newT H1 (rgV a b) Q
theorem pe_tupRgF {e : Expr} {te : L2.St → Hp → (Int → Int → Hp → Prop) → Prop} {p pos : Pos} (hc : X.calm = true) (hg : Gl X "tuple") (hm : X.mg "tuple" = none) (he : PRg X e te) (na : starEach [e] X.env = (false, eval e X.env) :: starEach [] X.env) : PE X (.Call (.Name "tuple" p) [e] [] pos) (tTupRgF te) := by
  refine ⟨fun pins s σ H Q I h => ?_⟩
  refine Call_ (ld_blt I hg hm boot_tuple (PyProof.Rows.callWith_type1 (args_cons (thn (he pins s σ H _ I h) fun x s1 ⟨r, a, b, t, u, v, H1, ex, hr, I1, ok, q⟩ => args_nil ?_) na) na))
  subst ex
  obtain ⟨b1, b2, b3, b4, b5⟩ := ok
  refine call_tuple_range (n := (b - a).toNat) (I1.ok.hd hc) hr (small_one b1 b2 b3 b4) (rangeSize_nat a b) b5 fun h' tk acc hk hi => ?_
  have I2 : Inv X pins σ H1 { s1 with heap := h', toks := tk } := I1.kept hk
  have rv := vals_rg hi
  have := I2.newT (tk := tk) (by rw [rgV_length, sizeLine_eq]; omega) rv q
  rw [Array.toArray_toList] at this
  exact this
end
end DL

set_option maxRecDepth 100000
namespace DL
open PySem PySem.Spec PyProof.Rows L2

/-! ### data -/
inductive D where
  | non | bl (b : Bool) | int (i : Int) | str (x : Str)
  | tup (xs : List D) | lst (xs : List D)
  | obj (c : Str) (fs : List (Str × D))
  | dct (kvs : List (Key × D))
  | iset (xs : List Int)
  | frz (xs : List D)

/-- a bound: never run, only asked of -/
def Grd (p : Prop) : Prop := p
noncomputable instance {p : Prop} : Decidable (Grd p) := Classical.propDecidable _

structure Gx where
  K : PySem.W.Frag
  cls : Str → Addr

def SetIs (S : Int → Bool) (n : Nat) (xs : List Int) : Prop := xs.Nodup ∧ n = xs.length ∧ ∀ i, S i = true ↔ i ∈ xs

mutual
inductive Rep (G : Gx) (M : Addr → Prop) (H : Hp) : V → D → Prop
  | non : Rep G M H .non .non
  | bl (b : Bool) : Rep G M H (.bl b) (.bl b)
  | int (i : Int) : Rep G M H (.int i) (.int i)
  | str (x : Str) : Rep G M H (.str x) (.str x)
  | tup {a : Addr} {o : Obj} {xs : List V} {ds : List D} : ¬ M a → H a = some (.frz o (.tup xs)) → o.dict = none → RepL G M H xs ds → Rep G M H (.ref a) (.tup ds)
  | lst {a : Addr} {xs : List V} {ds : List D} : ¬ M a → H a = some (.lst xs) → RepL G M H xs ds → Rep G M H (.ref a) (.lst ds)
  | obj {a dx : Addr} {c : Str} {vs : List (Str × V)} {fs : List (Str × D)} : ¬ M a → H a = some (.ins (G.cls c) dx vs) → RepF G M H vs fs → Rep G M H (.ref a) (.obj c fs)
  | dct {a : Addr} {ks : List (Key × V)} {kvs : List (Key × D)} : ¬ M a → H a = some (.dK ks) → RepK G M H ks kvs → Rep G M H (.ref a) (.dct kvs)
  | iset {a : Addr} {S : Int → Bool} {n : Nat} {xs : List Int} : ¬ M a → H a = some (.set S n) → SetIs S n xs → Rep G M H (.ref a) (.iset xs)
  | frz {a : Addr} {o : Obj} {xs : List V} {ds : List D} : ¬ M a → H a = some (.frz o (.lst xs)) → RepL G M H xs ds → Rep G M H (.ref a) (.frz ds)
  | kon {a : Addr} {xs : List V} {ds : List D} : (∃ (o : Obj) (its : Array Value) (n : Nat), G.K.lookup a = some o ∧ o.cls = .type "list" ∧ o.dict = none ∧ o.data = .seq its n ∧ its.size ≤ sizeLine ∧ Vals xs its.toList) →
      RepL G M H xs ds → Rep G M H (.ref a) (.frz ds)
inductive RepL (G : Gx) (M : Addr → Prop) (H : Hp) : List V → List D → Prop
  | nil : RepL G M H [] []
  | cons {v : V} {d : D} {vs : List V} {ds : List D} : Rep G M H v d → RepL G M H vs ds → RepL G M H (v :: vs) (d :: ds)
inductive RepF (G : Gx) (M : Addr → Prop) (H : Hp) : List (Str × V) → List (Str × D) → Prop
  | nil : RepF G M H [] []
  | cons {x : Str} {v : V} {d : D} {vs : List (Str × V)} {ds : List (Str × D)} : Rep G M H v d → RepF G M H vs ds → RepF G M H ((x, v) :: vs) ((x, d) :: ds)
inductive RepK (G : Gx) (M : Addr → Prop) (H : Hp) : List (Key × V) → List (Key × D) → Prop
  | nil : RepK G M H [] []
  | cons {x : Key} {v : V} {d : D} {vs : List (Key × V)} {ds : List (Key × D)} : Rep G M H v d → RepK G M H vs ds → RepK G M H ((x, v) :: vs) ((x, d) :: ds)
end

section
variable {G : Gx} {M M' : Addr → Prop} {H H' : Hp}
theorem some_here {a : Addr} {o : HO} (h : H a = some o) : H a ≠ none := by rw [h]; exact (fun z => nomatch z)

mutual
theorem Rep.mono (hM : ∀ a, M' a → M a ∨ H a = none) (hH : ∀ a o, H a = some o → ¬ M a → H' a = some o) : ∀ {d : D} {v : V}, Rep G M H v d → Rep G M' H' v d
  | .non, _, h => by cases h; exact .non
  | .bl b, _, h => by cases h; exact .bl b
  | .int i, _, h => by cases h; exact .int i
  | .str x, _, h => by cases h; exact .str x
  | .tup ds, _, h => by
    cases h with
    | tup h1 h2 h0 h3 => exact .tup (fun z => (hM _ z).elim h1 (some_here h2)) (hH _ _ h2 h1) h0 (RepL.mono hM hH h3)
  | .lst ds, _, h => by
    cases h with
    | lst h1 h2 h3 => exact .lst (fun z => (hM _ z).elim h1 (some_here h2)) (hH _ _ h2 h1) (RepL.mono hM hH h3)
  | .obj c fs, _, h => by
    cases h with
    | obj h1 h2 h3 => exact .obj (fun z => (hM _ z).elim h1 (some_here h2)) (hH _ _ h2 h1) (RepF.mono hM hH h3)
  | .dct kvs, _, h => by
    cases h with
    | dct h1 h2 h3 => exact .dct (fun z => (hM _ z).elim h1 (some_here h2)) (hH _ _ h2 h1) (RepK.mono hM hH h3)
  | .iset xs, _, h => by
    cases h with
    | iset h1 h2 h3 => exact .iset (fun z => (hM _ z).elim h1 (some_here h2)) (hH _ _ h2 h1) h3
  | .frz ds, _, h => by
    cases h with
    | frz h1 h2 h3 => exact .frz (fun z => (hM _ z).elim h1 (some_here h2)) (hH _ _ h2 h1) (RepL.mono hM hH h3)
    | kon h1 h3 => exact .kon h1 (RepL.mono hM hH h3)
theorem RepL.mono (hM : ∀ a, M' a → M a ∨ H a = none) (hH : ∀ a o, H a = some o → ¬ M a → H' a = some o) : ∀ {ds : List D} {vs : List V}, RepL G M H vs ds → RepL G M' H' vs ds
  | [], _, h => by cases h; exact .nil
  | d :: ds, _, h => by
    cases h with
    | cons h1 h2 => exact .cons (Rep.mono hM hH h1) (RepL.mono hM hH h2)
theorem RepF.mono (hM : ∀ a, M' a → M a ∨ H a = none) (hH : ∀ a o, H a = some o → ¬ M a → H' a = some o) : ∀ {ds : List (Str × D)} {vs : List (Str × V)}, RepF G M H vs ds → RepF G M' H' vs ds
  | [], _, h => by cases h; exact .nil
  | (x, d) :: ds, _, h => by
    cases h with
    | cons h1 h2 => exact .cons (Rep.mono hM hH h1) (RepF.mono hM hH h2)
theorem RepK.mono (hM : ∀ a, M' a → M a ∨ H a = none) (hH : ∀ a o, H a = some o → ¬ M a → H' a = some o) : ∀ {ds : List (Key × D)} {vs : List (Key × V)}, RepK G M H vs ds → RepK G M' H' vs ds
  | [], _, h => by cases h; exact .nil
  | (x, d) :: ds, _, h => by
    cases h with
    | cons h1 h2 => exact .cons (Rep.mono hM hH h1) (RepK.mono hM hH h2)
end

theorem RepL.length : ∀ {ds : List D} {vs : List V}, RepL G M H vs ds → vs.length = ds.length
  | _, _, .nil => rfl
  | _, _, .cons _ t => by rw [List.length_cons, List.length_cons, RepL.length t]
theorem RepL.get : ∀ {ds : List D} {vs : List V} {i : Nat} {d : D}, RepL G M H vs ds → ds[i]? = some d → ∃ v, vs[i]? = some v ∧ Rep G M H v d
  | _, _, _, _, .nil, e => by simp at e
  | _, _, 0, _, .cons r _, e => by simp at e; subst e; exact ⟨_, rfl, r⟩
  | _, _, i + 1, d, .cons _ t, e => by
    obtain ⟨v, h1, h2⟩ := RepL.get (i := i) (d := d) t (by simpa using e)
    exact ⟨v, by simpa using h1, h2⟩
theorem RepL.getV : ∀ {ds : List D} {vs : List V} {i : Nat} {v : V}, RepL G M H vs ds → vs[i]? = some v → ∃ d, ds[i]? = some d ∧ Rep G M H v d
  | _, _, _, _, .nil, e => by simp at e
  | _, _, 0, _, .cons r _, e => by simp at e; subst e; exact ⟨_, rfl, r⟩
  | _, _, i + 1, d, .cons _ t, e => by
    obtain ⟨v, h1, h2⟩ := RepL.getV (i := i) (v := d) t (by simpa using e)
    exact ⟨v, by simpa using h1, h2⟩
theorem RepL.append : ∀ {ds es : List D} {vs ws : List V}, RepL G M H vs ds → RepL G M H ws es → RepL G M H (vs ++ ws) (ds ++ es)
  | _, _, _, _, .nil, s => s
  | _, _, _, _, .cons r t, s => .cons r (RepL.append t s)
theorem RepL.take : ∀ {ds : List D} {vs : List V} (n : Nat), RepL G M H vs ds → RepL G M H (vs.take n) (ds.take n)
  | _, _, 0, _ => .nil
  | _, _, _ + 1, .nil => .nil
  | _, _, n + 1, .cons r t => .cons r (RepL.take n t)
theorem RepL.drop : ∀ {ds : List D} {vs : List V} (n : Nat), RepL G M H vs ds → RepL G M H (vs.drop n) (ds.drop n)
  | _, _, 0, r => r
  | _, _, _ + 1, .nil => .nil
  | _, _, n + 1, .cons _ t => RepL.drop n t
theorem RepL.set {v : V} {d : D} (r : Rep G M H v d) : ∀ {ds : List D} {vs : List V} (i : Nat), RepL G M H vs ds → RepL G M H (vs.set i v) (ds.set i d)
  | _, _, _, .nil => .nil
  | _, _, 0, .cons _ t => .cons r t
  | _, _, i + 1, .cons q t => .cons q (RepL.set r i t)
theorem RepL.eraseIdx : ∀ {ds : List D} {vs : List V} (i : Nat), RepL G M H vs ds → RepL G M H (vs.eraseIdx i) (ds.eraseIdx i)
  | _, _, _, .nil => .nil
  | _, _, 0, .cons _ t => t
  | _, _, i + 1, .cons q t => .cons q (RepL.eraseIdx i t)
theorem RepL.dropLast {ds : List D} {vs : List V} (r : RepL G M H vs ds) : RepL G M H vs.dropLast ds.dropLast := by
  rw [List.dropLast_eq_take, List.dropLast_eq_take, r.length]
  exact r.take _
theorem RepL.reverse : ∀ {ds : List D} {vs : List V}, RepL G M H vs ds → RepL G M H vs.reverse ds.reverse
  | _, _, .nil => .nil
  | _, _, .cons r t => by rw [List.reverse_cons, List.reverse_cons]; exact (RepL.reverse t).append (.cons r .nil)
theorem RepL.ints : ∀ {ns : List Int}, RepL G M H (ns.map V.int) (ns.map D.int)
  | [] => .nil
  | n :: ns => .cons (.int n) RepL.ints
theorem RepL.ints_of : ∀ {ns : List Int} {vs : List V}, RepL G M H vs (ns.map D.int) → vs = ns.map V.int
  | [], _, h => by cases h; rfl
  | n :: ns, _, h => by
    cases h with
    | cons h1 h2 => cases h1; rw [RepL.ints_of h2]; rfl
end

/-! ### slots, environments -/
inductive Slot where
  | un | imm (d : D) | ow (pin : Bool) (d : D)
abbrev Ev := List Slot

def OwnS (σ : L2.St) (ρ : Ev) (a : Addr) : Prop := ∃ (i : Nat) (b : Bool) (d : D), ρ[i]? = some (Slot.ow b d) ∧ σ[i]? = some (some (V.ref a))
def MM (N : Addr → Prop) (σ : L2.St) (ρ : Ev) : Addr → Prop := fun a => N a ∨ OwnS σ ρ a
def addN (N : Addr → Prop) (p : Addr) : Addr → Prop := fun a => N a ∨ a = p

/-- what stands at a, a mutable thing: its children avoid M -/
inductive OwnN (G : Gx) (M : Addr → Prop) (H : Hp) (a : Addr) : D → Prop
  | lst {xs : List V} {ds : List D} : H a = some (.lst xs) → RepL G M H xs ds → OwnN G M H a (.lst ds)
  | obj {dx : Addr} {c : Str} {vs : List (Str × V)} {fs : List (Str × D)} : H a = some (.ins (G.cls c) dx vs) → RepF G M H vs fs → OwnN G M H a (.obj c fs)
  | dct {ks : List (Key × V)} {kvs : List (Key × D)} : H a = some (.dK ks) → RepK G M H ks kvs → OwnN G M H a (.dct kvs)
  | iset {S : Int → Bool} {n : Nat} {xs : List Int} : H a = some (.set S n) → SetIs S n xs → OwnN G M H a (.iset xs)
/-- readable: its top may be in M -/
def RepT (G : Gx) (M : Addr → Prop) (H : Hp) (v : V) (d : D) : Prop := Rep G M H v d ∨ ∃ a, v = .ref a ∧ OwnN G M H a d
inductive RepTL (G : Gx) (M : Addr → Prop) (H : Hp) : List V → List D → Prop
  | nil : RepTL G M H [] []
  | cons {v : V} {d : D} {vs : List V} {ds : List D} : RepT G M H v d → RepTL G M H vs ds → RepTL G M H (v :: vs) (d :: ds)

section
variable {G : Gx} {M M' : Addr → Prop} {H H' : Hp}
theorem OwnN.here {a : Addr} {d : D} (h : OwnN G M H a d) : H a ≠ none := by cases h <;> exact some_here (by assumption)
theorem OwnN.mono {a : Addr} {d : D} (hM : ∀ a, M' a → M a ∨ H a = none) (hH : ∀ a o, H a = some o → ¬ M a → H' a = some o) (ha : H' a = H a) (h : OwnN G M H a d) : OwnN G M' H' a d := by
  cases h with
  | lst h1 h2 => exact .lst (ha.trans h1) (h2.mono hM hH)
  | obj h1 h2 => exact .obj (ha.trans h1) (h2.mono hM hH)
  | dct h1 h2 => exact .dct (ha.trans h1) (h2.mono hM hH)
  | iset h1 h2 => exact .iset (ha.trans h1) h2
theorem OwnN.rep {a : Addr} {d : D} (n : ¬ M a) (h : OwnN G M H a d) : Rep G M H (.ref a) d := by
  cases h with
  | lst h1 h2 => exact .lst n h1 h2
  | obj h1 h2 => exact .obj n h1 h2
  | dct h1 h2 => exact .dct n h1 h2
  | iset h1 h2 => exact .iset n h1 h2
theorem RepT.lst {v : V} {ds : List D} (h : RepT G M H v (.lst ds)) : ∃ a xs, v = .ref a ∧ H a = some (.lst xs) ∧ RepL G M H xs ds := by
  rcases h with h | ⟨a, rfl, h⟩
  · cases h with
    | lst _ h2 h3 => exact ⟨_, _, rfl, h2, h3⟩
  · cases h with
    | lst h2 h3 => exact ⟨_, _, rfl, h2, h3⟩
theorem RepT.tup {v : V} {ds : List D} (h : RepT G M H v (.tup ds)) : ∃ a o xs, v = .ref a ∧ H a = some (.frz o (.tup xs)) ∧ o.dict = none ∧ RepL G M H xs ds := by
  rcases h with h | ⟨a, rfl, h⟩
  · cases h with
    | tup _ h2 h0 h3 => exact ⟨_, _, _, rfl, h2, h0, h3⟩
  · cases h
theorem RepT.frz {v : V} {ds : List D} (h : RepT G M H v (.frz ds)) : ∃ a xs, v = .ref a ∧ SqL G.K H a xs ∧ RepL G M H xs ds := by
  rcases h with h | ⟨a, rfl, h⟩
  · cases h with
    | frz _ h2 h3 => exact ⟨_, _, rfl, .inl (.inr ⟨_, h2⟩), h3⟩
    | kon h2 h3 => exact ⟨_, _, rfl, .inr h2, h3⟩
  · cases h
theorem RepT.int {v : V} {i : Int} (h : RepT G M H v (.int i)) : v = .int i := by
  rcases h with h | ⟨a, rfl, h⟩ <;> cases h; rfl
theorem RepT.bl {v : V} {i : Bool} (h : RepT G M H v (.bl i)) : v = .bl i := by
  rcases h with h | ⟨a, rfl, h⟩ <;> cases h; rfl
theorem RepT.str {v : V} {i : Str} (h : RepT G M H v (.str i)) : v = .str i := by
  rcases h with h | ⟨a, rfl, h⟩ <;> cases h; rfl
theorem RepT.non {v : V} (h : RepT G M H v .non) : v = .non := by
  rcases h with h | ⟨a, rfl, h⟩ <;> cases h; rfl
/-- into new cells: a fresh object at p -/
theorem fresh_mono {p : Addr} {o : HO} (hp : H p = none) : (∀ a, addN M p a → M a ∨ H a = none) ∧ ∀ a u, H a = some u → ¬ M a → (upd H p o) a = some u :=
  ⟨fun a h => h.elim .inl fun e => .inr (by rw [e]; exact hp), fun a u e _ => by rw [upd_ne (ne_of_none e hp)]; exact e⟩
end
end DL

set_option maxRecDepth 100000
namespace DL
open PySem PySem.Spec PyProof.Rows L2

def DomM (M : Addr → Prop) (H : Hp) : Prop := ∀ a, M a → H a ≠ none

structure EnvOk (G : Gx) (N : Addr → Prop) (H : Hp) (σ : L2.St) (ρ : Ev) : Prop where
  len : σ.length = ρ.length
  dom : DomM N H
  imm : ∀ (i : Nat) (d : D), ρ[i]? = some (Slot.imm d) → ∃ v, σ[i]? = some (some v) ∧ Rep G (MM N σ ρ) H v d
  ow : ∀ (i : Nat) (b : Bool) (d : D), ρ[i]? = some (Slot.ow b d) → ∃ a, σ[i]? = some (some (V.ref a)) ∧ ¬ N a ∧ OwnN G (MM N σ ρ) H a d
  ne : ∀ (i j : Nat) (b b' : Bool) (d d' : D) (a : Addr), ρ[i]? = some (Slot.ow b d) → ρ[j]? = some (Slot.ow b' d') → σ[i]? = some (some (V.ref a)) → σ[j]? = some (some (V.ref a)) → i = j

structure Shape (ρ ρ' : Ev) : Prop where
  len : ρ.length = ρ'.length
  ow : ∀ (i : Nat) (b : Bool) (d : D), ρ[i]? = some (Slot.ow b d) → ∃ d', ρ'[i]? = some (Slot.ow b d')
  same : ∀ (i : Nat), (∀ b d, ρ[i]? ≠ some (Slot.ow b d)) → ρ'[i]? = ρ[i]?
theorem Shape.refl (ρ : Ev) : Shape ρ ρ := ⟨rfl, fun _ _ d h => ⟨d, h⟩, fun _ _ => rfl⟩
theorem Shape.ow' {ρ ρ' : Ev} (s : Shape ρ ρ') {i : Nat} {b : Bool} {d : D} (h : ρ'[i]? = some (Slot.ow b d)) : ∃ d', ρ[i]? = some (Slot.ow b d') := by
  by_cases q : ∃ b0 d0, ρ[i]? = some (Slot.ow b0 d0)
  · obtain ⟨b0, d0, q⟩ := q
    obtain ⟨d1, q1⟩ := s.ow i b0 d0 q
    rw [h] at q1
    cases q1
    exact ⟨d0, q⟩
  · have e := s.same i fun b0 d0 z => q ⟨b0, d0, z⟩
    exact ⟨d, e.symm.trans h⟩
theorem Shape.trans {ρ ρ1 ρ2 : Ev} (s : Shape ρ ρ1) (t : Shape ρ1 ρ2) : Shape ρ ρ2 := by
  refine ⟨s.len.trans t.len, fun i b d h => ?_, fun i h => ?_⟩
  · obtain ⟨d', h'⟩ := s.ow i b d h
    exact t.ow i b d' h'
  · have e := s.same i h
    exact (t.same i fun b d z => h b d (e.symm.trans z)).trans e
theorem Shape.imm {ρ ρ' : Ev} (s : Shape ρ ρ') {i : Nat} {d : D} (h : ρ'[i]? = some (Slot.imm d)) : ρ[i]? = some (Slot.imm d) := by
  by_cases q : ∃ b0 d0, ρ[i]? = some (Slot.ow b0 d0)
  · obtain ⟨b0, d0, q⟩ := q
    obtain ⟨d1, q1⟩ := s.ow i b0 d0 q
    rw [h] at q1
    cases q1
  · exact (s.same i fun b0 d0 z => q ⟨b0, d0, z⟩).symm.trans h
theorem Shape.own {ρ ρ' : Ev} (s : Shape ρ ρ') (σ : L2.St) : OwnS σ ρ' = OwnS σ ρ := by
  funext a
  apply propext
  constructor
  · rintro ⟨i, b, d, h, e⟩
    obtain ⟨d', h'⟩ := s.ow' h
    exact ⟨i, b, d', h', e⟩
  · rintro ⟨i, b, d, h, e⟩
    obtain ⟨d', h'⟩ := s.ow i b d h
    exact ⟨i, b, d', h', e⟩
theorem Shape.mm {ρ ρ' : Ev} (s : Shape ρ ρ') (N : Addr → Prop) (σ : L2.St) : MM N σ ρ' = MM N σ ρ := by
  unfold MM; rw [s.own σ]

section
variable {G : Gx} {N M : Addr → Prop} {H H' H1 H2 : Hp} {σ σ' σ1 σ2 : L2.St} {ρ ρ' ρ1 ρ2 : Ev} {v : V} {d : D} {p : Addr}

theorem EnvOk.domM (I : EnvOk G N H σ ρ) : DomM (MM N σ ρ) H := fun a h => by
  rcases h with h | ⟨i, b, d, h1, h2⟩
  · exact I.dom a h
  · obtain ⟨a', e, _, o⟩ := I.ow i b d h1
    rw [h2] at e
    cases e
    exact o.here

/-- an expression's way: slots stay, own data may change -/
structure GoE (G : Gx) (N : Addr → Prop) (σ : L2.St) (ρ : Ev) (H : Hp) (ρ' : Ev) (H' : Hp) : Prop where
  env : EnvOk G N H' σ ρ'
  fr : ∀ a o, H a = some o → ¬ OwnS σ ρ a → H' a = some o
  dom : ∀ a, H a ≠ none → H' a ≠ none
  shape : Shape ρ ρ'
theorem GoE.refl (I : EnvOk G N H σ ρ) : GoE G N σ ρ H ρ H := ⟨I, fun _ _ h _ => h, fun _ h => h, .refl _⟩
theorem GoE.trans (g : GoE G N σ ρ H ρ1 H1) (k : GoE G N σ ρ1 H1 ρ2 H2) : GoE G N σ ρ H ρ2 H2 :=
  ⟨k.env, fun a o e n => k.fr a o (g.fr a o e n) (by rw [g.shape.own σ]; exact n), fun a h => k.dom a (g.dom a h), g.shape.trans k.shape⟩
theorem GoE.mm (g : GoE G N σ ρ H ρ' H') : MM N σ ρ' = MM N σ ρ := g.shape.mm N σ
theorem GoE.rep (g : GoE G N σ ρ H ρ' H') (r : Rep G (MM N σ ρ) H v d) : Rep G (MM N σ ρ') H' v d := by
  rw [g.mm]
  exact r.mono (fun _ h => .inl h) fun a o e n => g.fr a o e fun z => n (.inr z)
theorem GoE.repL {vs : List V} {ds : List D} (g : GoE G N σ ρ H ρ' H') (r : RepL G (MM N σ ρ) H vs ds) : RepL G (MM N σ ρ') H' vs ds := by
  rw [g.mm]
  exact r.mono (fun _ h => .inl h) fun a o e n => g.fr a o e fun z => n (.inr z)

theorem mm_add (N : Addr → Prop) (p : Addr) (σ : L2.St) (ρ : Ev) : MM (addN N p) σ ρ = addN (MM N σ ρ) p := by
  funext a
  apply propext
  constructor
  · rintro ((h | h) | h)
    · exact .inl (.inl h)
    · exact .inr h
    · exact .inl (.inr h)
  · rintro ((h | h) | h)
    · exact .inl (.inl h)
    · exact .inr h
    · exact .inl (.inr h)
theorem addN_sub {a : Addr} (h : N a) : addN N p a := .inl h
/-- forbidding less -/
theorem EnvOk.less (I : EnvOk G (addN N p) H σ ρ) : EnvOk G N H σ ρ := by
  have hM : ∀ a, MM N σ ρ a → MM (addN N p) σ ρ a := fun a h => h.elim (fun z => .inl (.inl z)) .inr
  refine ⟨I.len, fun a h => I.dom a (.inl h), fun i d h => ?_, fun i b d h => ?_, I.ne⟩
  · obtain ⟨v, e, r⟩ := I.imm i d h
    exact ⟨v, e, r.mono (fun a z => .inl (hM a z)) fun _ _ e _ => e⟩
  · obtain ⟨a, e, n, r⟩ := I.ow i b d h
    exact ⟨a, e, fun z => n (.inl z), r.mono (fun a z => .inl (hM a z)) (fun _ _ e _ => e) rfl⟩
theorem GoE.less (g : GoE G (addN N p) σ ρ H ρ' H') : GoE G N σ ρ H ρ' H' := ⟨g.env.less, g.fr, g.dom, g.shape⟩
/-- new objects come -/
theorem EnvOk.grow (I : EnvOk G N H σ ρ) (s : Same H H') : EnvOk G N H' σ ρ := by
  have hd : ∀ a, H a ≠ none → H' a ≠ none := fun a h => by
    cases q : H a with
    | none => exact absurd q h
    | some o => rw [s a o q]; exact (fun z => nomatch z)
  refine ⟨I.len, fun a h => hd a (I.dom a h), fun i d h => ?_, fun i b d h => ?_, I.ne⟩
  · obtain ⟨v, e, r⟩ := I.imm i d h
    exact ⟨v, e, r.mono (fun a z => .inl z) fun _ _ e _ => s _ _ e⟩
  · obtain ⟨a, e, n, r⟩ := I.ow i b d h
    refine ⟨a, e, n, r.mono (fun a z => .inl z) (fun _ _ e _ => s _ _ e) ?_⟩
    cases q : H a with
    | none => exact absurd q r.here
    | some o => exact s _ _ q
theorem GoE.grow (I : EnvOk G N H σ ρ) (s : Same H H') : GoE G N σ ρ H ρ H' :=
  ⟨I.grow s, fun a o e _ => s a o e, fun a h => by
    cases q : H a with
    | none => exact absurd q h
    | some o => rw [s a o q]; exact (fun z => nomatch z), .refl _⟩
/-- a new address is forbidden -/
theorem EnvOk.more (I : EnvOk G N H σ ρ) (s : Same H H') (hp : H p = none) (hp' : H' p ≠ none) : EnvOk G (addN N p) H' σ ρ := by
  have J := I.grow s
  have hM : ∀ a, MM (addN N p) σ ρ a → MM N σ ρ a ∨ H a = none := fun a h => by
    rw [mm_add] at h
    exact h.elim .inl fun e => .inr (by rw [e]; exact hp)
  refine ⟨I.len, fun a h => h.elim (J.dom a) fun e => by rw [e]; exact hp', fun i d h => ?_, fun i b d h => ?_, I.ne⟩
  · obtain ⟨v, e, r⟩ := I.imm i d h
    exact ⟨v, e, r.mono hM fun _ _ e _ => s _ _ e⟩
  · obtain ⟨a, e, n, r⟩ := I.ow i b d h
    refine ⟨a, e, fun z => z.elim n fun z => r.here (by rw [z]; exact hp), r.mono hM (fun _ _ e _ => s _ _ e) ?_⟩
    cases q : H a with
    | none => exact absurd q r.here
    | some o => exact s _ _ q

/-! ### results -/
inductive R where
  | val (d : D) | own (i : Nat)
def R.rd (ρ : Ev) : R → Option D
  | .val d => some d
  | .own i => match ρ[i]? with
    | some (.ow _ d) => some d
    | _ => none
def RR (G : Gx) (N : Addr → Prop) (σ : L2.St) (ρ : Ev) (H : Hp) (v : V) : R → Prop
  | .val d => Rep G (MM N σ ρ) H v d
  | .own i => σ[i]? = some (some v) ∧ ∃ b d, ρ[i]? = some (Slot.ow b d)
inductive RRL (G : Gx) (N : Addr → Prop) (σ : L2.St) (ρ : Ev) (H : Hp) : List V → List R → Prop
  | nil : RRL G N σ ρ H [] []
  | cons {v : V} {r : R} {vs : List V} {rs : List R} : RR G N σ ρ H v r → RRL G N σ ρ H vs rs → RRL G N σ ρ H (v :: vs) (r :: rs)
theorem GoE.rr {r : R} (g : GoE G N σ ρ H ρ' H') (h : RR G N σ ρ H v r) : RR G N σ ρ' H' v r := by
  cases r with
  | val d => exact g.rep h
  | own i =>
    obtain ⟨e, b, d, q⟩ := h
    obtain ⟨d', q'⟩ := g.shape.ow i b d q
    exact ⟨e, b, d', q'⟩
theorem GoE.rrl (g : GoE G N σ ρ H ρ' H') : ∀ {vs : List V} {rs : List R}, RRL G N σ ρ H vs rs → RRL G N σ ρ' H' vs rs
  | _, _, .nil => .nil
  | _, _, .cons h t => .cons (g.rr h) (GoE.rrl g t)
theorem RR.repT {r : R} (I : EnvOk G N H σ ρ) (h : RR G N σ ρ H v r) (e : r.rd ρ = some d) : RepT G (MM N σ ρ) H v d := by
  cases r with
  | val d' => cases e; exact .inl h
  | own i =>
    obtain ⟨e1, b, d', q⟩ := h
    simp only [R.rd, q] at e
    cases e
    obtain ⟨a, e2, _, o⟩ := I.ow i b d q
    rw [e1] at e2
    cases e2
    exact .inr ⟨a, rfl, o⟩
def rdAll (ρ : Ev) : List R → Option (List D)
  | [] => some []
  | r :: rs => (r.rd ρ).bind fun d => (rdAll ρ rs).bind fun ds => some (d :: ds)
theorem RRL.repTL (I : EnvOk G N H σ ρ) : ∀ {vs : List V} {rs : List R} {ds : List D}, RRL G N σ ρ H vs rs → rdAll ρ rs = some ds → RepTL G (MM N σ ρ) H vs ds
  | _, _, _, .nil, e => by cases e; exact .nil
  | _, _, _, .cons (r := r) (rs := rs) h t, e => by
    unfold rdAll at e
    cases q : r.rd ρ with
    | none => rw [q] at e; cases e
    | some d =>
      rw [q] at e
      cases q2 : rdAll ρ rs with
      | none => rw [q2] at e; cases e
      | some ds =>
        rw [q2] at e
        cases e
        exact .cons (h.repT I q) (RRL.repTL I t q2)
end

/-! ### judgements -/
abbrev FE := Ev → Option (R × Ev)
abbrev FN := Ev → Option (D × Ev)
abbrev FA := Ev → Option (List R × Ev)
abbrev FT := Ev → Option (Bool × Ev)
structure DE (G : Gx) (X : Cx) (e : Expr) (f : FE) : Prop where
  ex : ∃ t, PE X e t ∧ ∀ N σ H ρ r ρ' Q, EnvOk G N H σ ρ → f ρ = some (r, ρ') → (∀ v H', GoE G N σ ρ H ρ' H' → RR G N σ ρ' H' v r → Q v H') → t σ H Q
/-- a new mutable thing -/
structure DN (G : Gx) (X : Cx) (e : Expr) (f : FN) : Prop where
  ex : ∃ t, PE X e t ∧ ∀ N σ H ρ d ρ' Q, EnvOk G N H σ ρ → f ρ = some (d, ρ') → (∀ p H', GoE G (addN N p) σ ρ H ρ' H' → H p = none → OwnN G (addN (MM N σ ρ') p) H' p d → Q (.ref p) H') → t σ H Q
structure DA (G : Gx) (X : Cx) (es : List Expr) (f : FA) : Prop where
  ex : ∃ t, PA X es t ∧ ∀ N σ H ρ rs ρ' Q, EnvOk G N H σ ρ → f ρ = some (rs, ρ') → (∀ vs H', GoE G N σ ρ H ρ' H' → RRL G N σ ρ' H' vs rs → Q vs H') → t σ H Q
structure DT (G : Gx) (X : Cx) (e : Expr) (f : FT) : Prop where
  ex : ∃ t, PT X e t ∧ ∀ N σ H ρ b ρ' Q, EnvOk G N H σ ρ → f ρ = some (b, ρ') → (∀ H', GoE G N σ ρ H ρ' H' → Q b H') → t σ H Q
structure DW (G : Gx) (X : Cx) (e : Expr) (f : FT) : Prop where
  ex : ∃ t, PW X e t ∧ ∀ N σ H ρ b ρ' Q, EnvOk G N H σ ρ → f ρ = some (b, ρ') → (∀ H', GoE G N σ ρ H ρ' H' → Q b H') → t σ H Q

section
variable {G : Gx} {X : Cx} {e : Expr}
/-- a new thing as a value -/
def xNew (f : FN) : FE := fun ρ => (f ρ).bind fun z => some (.val z.1, z.2)
theorem DN.de {f : FN} (h : DN G X e f) : DE G X e (xNew f) := by
  obtain ⟨t, ht, hq⟩ := h.ex
  refine ⟨t, ht, fun N σ H ρ r ρ' Q I e q => ?_⟩
  unfold xNew at e
  cases z : f ρ with
  | none => rw [z] at e; cases e
  | some z1 =>
    rw [z] at e
    cases e
    refine hq N σ H ρ z1.1 z1.2 Q I z fun p H' g hp o => q _ H' g.less ?_
    have n : ¬ MM N σ z1.2 p := by
      intro h
      rcases h with h | ⟨i, b, d, h1, h2⟩
      · exact I.dom p h hp
      · obtain ⟨a, e2, n2, _⟩ := g.env.ow i b d h1
        rw [h2] at e2
        cases e2
        exact n2 (.inr rfl)
    exact (o.mono (M' := MM N σ z1.2) (fun a z => .inl (.inl z)) (fun _ _ e _ => e) rfl).rep n

/-! ### names, constants -/
def xName (i : Nat) : FE := fun ρ => match ρ[i]? with
  | some (.imm d) => some (.val d, ρ)
  | some (.ow _ _) => some (.own i, ρ)
  | _ => none
theorem DE.name (i : Nat) {x : Str} {pos : Pos} (hN : X.N[i]? = some x) (hv : Vis X.env.scope x) (hd : (x == ("__debug__" : Str)) = false) (hcd : (x == ("__classdict__" : Str)) = false) : DE G X (.Name x pos) (xName i) := by
  refine ⟨_, pe_var hN hv hd hcd, fun N σ H ρ r ρ' Q I e q => ?_⟩
  unfold xName at e
  split at e
  · rename_i d h
    cases e
    obtain ⟨v, e1, rp⟩ := I.imm i d h
    exact ⟨v, e1, q v H (.refl I) rp⟩
  · rename_i b d h
    cases e
    obtain ⟨a, e1, _, _⟩ := I.ow i b d h
    exact ⟨_, e1, q _ H (.refl I) ⟨e1, b, d, h⟩⟩
  · cases e
def xC (d : D) : FE := fun ρ => some (.val d, ρ)
theorem DE.int {i j pos} : DE G X (.Constant (.int i) j pos) (xC (.int i)) := ⟨_, pe_int, fun N σ H ρ r ρ' Q I e q => by cases e; exact q _ H (.refl I) (.int i)⟩
theorem DE.bl {b j pos} : DE G X (.Constant (.bool b) j pos) (xC (.bl b)) := ⟨_, pe_bl, fun N σ H ρ r ρ' Q I e q => by cases e; exact q _ H (.refl I) (.bl b)⟩
theorem DE.non {j pos} : DE G X (.Constant .none j pos) (xC .non) := ⟨_, pe_non, fun N σ H ρ r ρ' Q I e q => by cases e; exact q _ H (.refl I) .non⟩
theorem DE.str {x j pos} : DE G X (.Constant (.str x) j pos) (xC (.str x)) := ⟨_, pe_str, fun N σ H ρ r ρ' Q I e q => by cases e; exact q _ H (.refl I) (.str x)⟩

/-! ### arguments -/
def aNil : FA := fun ρ => some ([], ρ)
def aCons (f : FE) (g : FA) : FA := fun ρ => (f ρ).bind fun z => (g z.2).bind fun y => some (z.1 :: y.1, y.2)
theorem DA.nil : DA G X [] aNil := ⟨_, pa_nil, fun N σ H ρ r ρ' Q I e q => by cases e; exact q _ H (.refl I) .nil⟩
theorem DA.cons {es : List Expr} {f : FE} {g : FA} (h : DE G X e f) (k : DA G X es g) (hs : starEach (e :: es) X.env = (false, eval e X.env) :: starEach es X.env) : DA G X (e :: es) (aCons f g) := by
  obtain ⟨t, ht, hq⟩ := h.ex
  obtain ⟨u, hu, kq⟩ := k.ex
  refine ⟨_, pa_cons ht hu hs, fun N σ H ρ r ρ' Q I e q => ?_⟩
  unfold aCons at e
  cases z : f ρ with
  | none => rw [z] at e; cases e
  | some z1 =>
    rw [z] at e
    cases y : g z1.2 with
    | none => exact absurd e (by simp [y])
    | some y1 =>
      have e' : r = z1.1 :: y1.1 ∧ ρ' = y1.2 := by simp [y] at e; exact ⟨e.1.symm, e.2.symm⟩
      obtain ⟨rfl, rfl⟩ := e'
      refine hq N σ H ρ z1.1 z1.2 _ I z fun v H1 g1 r1 => ?_
      exact kq N σ H1 z1.2 y1.1 y1.2 _ g1.env y fun vs H2 g2 r2 => q _ H2 (g1.trans g2) (.cons (g2.rr r1) r2)
end
end DL

set_option maxRecDepth 100000
namespace DL
open PySem PySem.Spec PyProof.Rows L2

/-! ### operations by values -/
/-- what a value operation hands on: a value that stands for d, what stood stands -/
def Gives (G : Gx) (M : Addr → Prop) (H : Hp) (d : D) (Q : VK) : Prop := ∀ v H', Same H H' → Rep G M H' v d → Q v H'
def GivesN (G : Gx) (M : Addr → Prop) (H : Hp) (d : D) (Q : VK) : Prop := ∀ p H', Same H H' → H p = none → OwnN G (addN M p) H' p d → Q (.ref p) H'
structure VOp (G : Gx) (X : Cx) (F : Value → Value → Sem Value) (g : D → D → Option D) : Prop where
  ex : ∃ r, OpR X F r ∧ ∀ M H x y dx dy d Q, DomM M H → RepT G M H x dx → RepT G M H y dy → g dx dy = some d → Gives G M H d Q → r x y H Q
structure VOpN (G : Gx) (X : Cx) (F : Value → Value → Sem Value) (g : D → D → Option D) : Prop where
  ex : ∃ r, OpR X F r ∧ ∀ M H x y dx dy d Q, DomM M H → RepT G M H x dx → RepT G M H y dy → g dx dy = some d → GivesN G M H d Q → r x y H Q
structure VCall (G : Gx) (X : Cx) (f : Value) (g : List D → Option D) : Prop where
  ex : ∃ r, CallR X f r ∧ ∀ M H vs ds d Q, DomM M H → RepTL G M H vs ds → g ds = some d → Gives G M H d Q → r vs H Q
structure VCallN (G : Gx) (X : Cx) (f : Value) (g : List D → Option D) : Prop where
  ex : ∃ r, CallR X f r ∧ ∀ M H vs ds d Q, DomM M H → RepTL G M H vs ds → g ds = some d → GivesN G M H d Q → r vs H Q

section
variable {G : Gx} {X : Cx} {M : Addr → Prop} {H H' : Hp}
theorem DomM.not {p : Addr} (h : DomM M H) (hp : H p = none) : ¬ M p := fun z => h p z hp
/-- a new list, tuple -/
theorem new_lst {p : Addr} {xs : List V} {ds : List D} (hp : H p = none) (r : RepL G M H xs ds) : OwnN G (addN M p) (upd H p (.lst xs)) p (.lst ds) := by
  obtain ⟨h1, h2⟩ := fresh_mono (M := M) (o := .lst xs) hp
  exact .lst upd_same (r.mono h1 h2)
theorem new_tup {p : Addr} {o : Obj} {xs : List V} {ds : List D} (hm : DomM M H) (hp : H p = none) (ho : o.dict = none) (r : RepL G M H xs ds) : Rep G M (upd H p (.frz o (.tup xs))) (.ref p) (.tup ds) := by
  obtain ⟨h1, h2⟩ := fresh_mono (M := M) (o := .frz o (.tup xs)) hp
  exact .tup (hm.not hp) upd_same ho (r.mono (fun a z => .inl z) h2)
theorem same_new {p : Addr} {o : HO} (hp : H p = none) : Same H (upd H p o) := fun b u e => by rw [upd_ne (ne_of_none e hp)]; exact e
theorem GivesN.gives {d : D} {Q : VK} (hm : DomM M H) (g : Gives G M H d Q) : GivesN G M H d Q := fun p H' s hp o =>
  g _ H' s ((o.mono (M' := M) (fun a z => .inl (.inl z)) (fun _ _ e _ => e) rfl).rep (hm.not hp))
theorem VOpN.op {F : Value → Value → Sem Value} {g : D → D → Option D} (h : VOpN G X F g) : VOp G X F g := by
  obtain ⟨r, hr, k⟩ := h.ex
  exact ⟨r, hr, fun M H x y dx dy d Q hm rx ry e q => k M H x y dx dy d Q hm rx ry e (.gives hm q)⟩
theorem VCallN.op {f : Value} {g : List D → Option D} (h : VCallN G X f g) : VCall G X f g := by
  obtain ⟨r, hr, k⟩ := h.ex
  exact ⟨r, hr, fun M H vs ds d Q hm rx e q => k M H vs ds d Q hm rx e (.gives hm q)⟩
/-- two cases of one operation -/
def orF (g g' : D → D → Option D) : D → D → Option D := fun a b => match g a b with | some d => some d | none => g' a b
theorem VOp.or {F : Value → Value → Sem Value} {g g' : D → D → Option D} (h : VOp G X F g) (h' : VOp G X F g') : VOp G X F (orF g g') := by
  obtain ⟨r, hr, k⟩ := h.ex
  obtain ⟨r', hr', k'⟩ := h'.ex
  refine ⟨_, OpR.or hr hr', fun M H x y dx dy d Q hm rx ry e q => ?_⟩
  unfold orF at e
  cases z : g dx dy with
  | some d1 => rw [z] at e; cases e; exact .inl (k M H x y dx dy d Q hm rx ry z q)
  | none => rw [z] at e; exact .inr (k' M H x y dx dy d Q hm rx ry e q)
def orC (g g' : List D → Option D) : List D → Option D := fun a => match g a with | some d => some d | none => g' a
theorem VCall.or {f : Value} {g g' : List D → Option D} (h : VCall G X f g) (h' : VCall G X f g') : VCall G X f (orC g g') := by
  obtain ⟨r, hr, k⟩ := h.ex
  obtain ⟨r', hr', k'⟩ := h'.ex
  refine ⟨_, CallR.or hr hr', fun M H vs ds d Q hm rx e q => ?_⟩
  unfold orC at e
  cases z : g ds with
  | some d1 => rw [z] at e; cases e; exact .inl (k M H vs ds d Q hm rx z q)
  | none => rw [z] at e; exact .inr (k' M H vs ds d Q hm rx e q)

/-! ### ints -/
def g2I (f : Int → Int → Option D) : D → D → Option D := fun a b => match a, b with
  | .int i, .int j => f i j
  | _, _ => none
theorem vop_rI0 {F : Value → Value → Sem Value} {g : Int → Int → V} {g' : Int → Int → D} (h : OpR X F (rI0 g)) (hg : ∀ M H i j, Rep G M H (g i j) (g' i j)) : VOp G X F (g2I fun i j => some (g' i j)) := by
  refine ⟨_, h, fun M H x y dx dy d Q hm rx ry e q => ?_⟩
  unfold g2I at e
  split at e
  · rename_i i j
    cases e
    exact ⟨i, j, rx.int, ry.int, q _ H (.refl H) (hg M H i j)⟩
  · cases e
theorem vop_rI {F : Value → Value → Sem Value} {C : Int → Int → Prop} {g : Int → Int → V} {g' : Int → Int → D} [inst : ∀ i j, Decidable (C i j)] (h : OpR X F (rI C g)) (hg : ∀ M H i j, Rep G M H (g i j) (g' i j)) : VOp G X F (g2I fun i j => if C i j then some (g' i j) else none) := by
  refine ⟨_, h, fun M H x y dx dy d Q hm rx ry e q => ?_⟩
  unfold g2I at e
  split at e
  · rename_i i j
    dsimp only at e
    split at e
    · rename_i hc
      cases e
      exact ⟨i, j, rx.int, ry.int, hc, q _ H (.refl H) (hg M H i j)⟩
    · cases e
  · cases e
noncomputable instance (i j : Int) : Decidable (CMul i j) := Classical.propDecidable _
noncomputable instance (i j : Int) : Decidable (CDiv i j) := Classical.propDecidable _
noncomputable instance (i j : Int) : Decidable (CPow i j) := Classical.propDecidable _
def dAdd : D → D → Option D := g2I fun i j => some (.int (i + j))
def dSub : D → D → Option D := g2I fun i j => some (.int (i - j))
noncomputable def dMul : D → D → Option D := g2I fun i j => if CMul i j then some (.int (i * j)) else none
noncomputable def dDiv : D → D → Option D := g2I fun i j => if CDiv i j then some (.int (i / j)) else none
def dMod : D → D → Option D := g2I fun i j => if 0 < j then some (.int (i % j)) else none
noncomputable def dPow : D → D → Option D := g2I fun i j => if CPow i j then some (.int (i ^ j.toNat)) else none
noncomputable def dShl : D → D → Option D := g2I fun i j => if CPow i j then some (.int (i * 2 ^ j.toNat)) else none
def dShr : D → D → Option D := g2I fun i j => if 0 ≤ j then some (.int (i / 2 ^ j.toNat)) else none
def dAnd : D → D → Option D := g2I fun i j => some (.int (Builtin.bitAnd i j))
def dOr : D → D → Option D := g2I fun i j => some (.int (Builtin.bitOr i j))
def dXor : D → D → Option D := g2I fun i j => some (.int (Builtin.bitXor i j))
def dLt : D → D → Option D := g2I fun i j => some (.bl (decide (i < j)))
def dLe : D → D → Option D := g2I fun i j => some (.bl (decide (i ≤ j)))
def dGt : D → D → Option D := g2I fun i j => some (.bl (decide (j < i)))
def dGe : D → D → Option D := g2I fun i j => some (.bl (decide (j ≤ i)))
theorem v_add : VOp G X (binaryOp .Add) dAdd := vop_rI0 op_add fun _ _ _ _ => .int _
theorem v_sub : VOp G X (binaryOp .Sub) dSub := vop_rI0 op_sub fun _ _ _ _ => .int _
theorem v_mul : VOp G X (binaryOp .Mult) dMul := vop_rI op_mul fun _ _ _ _ => .int _
theorem v_div : VOp G X (binaryOp .FloorDiv) dDiv := vop_rI op_fdiv fun _ _ _ _ => .int _
theorem v_mod : VOp G X (binaryOp .Mod) dMod := vop_rI op_mod fun _ _ _ _ => .int _
theorem v_pow : VOp G X (binaryOp .Pow) dPow := vop_rI op_pow fun _ _ _ _ => .int _
theorem v_shl : VOp G X (binaryOp .LShift) dShl := vop_rI op_shl fun _ _ _ _ => .int _
theorem v_shr : VOp G X (binaryOp .RShift) dShr := vop_rI op_shr fun _ _ _ _ => .int _
theorem v_and : VOp G X (binaryOp .BitAnd) dAnd := vop_rI0 op_and fun _ _ _ _ => .int _
theorem v_or : VOp G X (binaryOp .BitOr) dOr := vop_rI0 op_or fun _ _ _ _ => .int _
theorem v_xor : VOp G X (binaryOp .BitXor) dXor := vop_rI0 op_xor fun _ _ _ _ => .int _
theorem v_lt : VOp G X (compareOp .Lt) dLt := vop_rI0 op_lt fun _ _ _ _ => .bl _
theorem v_le : VOp G X (compareOp .LtE) dLe := vop_rI0 op_le fun _ _ _ _ => .bl _
theorem v_gt : VOp G X (compareOp .Gt) dGt := vop_rI0 op_gt fun _ _ _ _ => .bl _
theorem v_ge : VOp G X (compareOp .GtE) dGe := vop_rI0 op_ge fun _ _ _ _ => .bl _
theorem v_iadd : VOp G X (inplaceOp .Add) dAdd := vop_rI0 iop_add fun _ _ _ _ => .int _
theorem v_isub : VOp G X (inplaceOp .Sub) dSub := vop_rI0 iop_sub fun _ _ _ _ => .int _
theorem v_imul : VOp G X (inplaceOp .Mult) dMul := vop_rI iop_mul fun _ _ _ _ => .int _
theorem v_idiv : VOp G X (inplaceOp .FloorDiv) dDiv := vop_rI iop_fdiv fun _ _ _ _ => .int _

/-! ### == of data at any depth -/
mutual
def D.py : D → PyData
  | .non => .none
  | .bl b => .bool b
  | .int i => .int i
  | .str x => .str x
  | .tup ds => .tuple (pyL ds)
  | .lst ds => .list (pyL ds)
  | _ => .none
def pyL : List D → List PyData
  | [] => []
  | d :: ds => d.py :: pyL ds
end
mutual
/-- data of at most so many floors, of none, ints, texts, bools, tuples and lists -/
def D.flat : Nat → D → Bool
  | _, .non => true
  | _, .bl _ => true
  | _, .int _ => true
  | _, .str _ => true
  | 0, _ => false
  | n + 1, .tup ds => flatL n ds
  | n + 1, .lst ds => flatL n ds
  | _, _ => false
def flatL : Nat → List D → Bool
  | _, [] => true
  | n, d :: ds => d.flat n && flatL n ds
end
end
end DL

set_option maxRecDepth 100000
namespace DL
open PySem PySem.Spec PyProof.Rows L2

mutual
/-- data of at most so many floors, of none, ints, texts, bools, tuples and lists -/
def D.flt : Nat → D → Bool
  | _, .non => true
  | _, .bl _ => true
  | _, .int _ => true
  | _, .str x => PyData.canLay0 (.str x)
  | 0, _ => false
  | n + 1, .tup ds => fltL n ds
  | n + 1, .lst ds => fltL n ds
  | _, _ => false
def fltL : Nat → List D → Bool
  | _, [] => true
  | n, d :: ds => d.flt n && fltL n ds
end
mutual
theorem flt_lay : ∀ (n : Nat) (d : D), d.flt n = true → d.py.canLay0 = true
  | _, .non, _ => by simp [D.py, PyData.canLay0]
  | _, .bl _, _ => by simp [D.py, PyData.canLay0]
  | _, .int _, _ => by simp [D.py, PyData.canLay0]
  | n, .str x, h => by
    cases n <;> simpa [D.py, D.flt] using h
  | 0, .tup _, h => by simp [D.flt] at h
  | 0, .lst _, h => by simp [D.flt] at h
  | n + 1, .tup ds, h => by
    have := fltL_lay n ds (by simpa [D.flt] using h)
    simpa [D.py, PyData.canLay0] using this
  | n + 1, .lst ds, h => by
    have := fltL_lay n ds (by simpa [D.flt] using h)
    simpa [D.py, PyData.canLay0] using this
  | n, .obj _ _, h => by cases n <;> simp [D.flt] at h
  | n, .dct _, h => by cases n <;> simp [D.flt] at h
  | n, .iset _, h => by cases n <;> simp [D.flt] at h
  | n, .frz _, h => by cases n <;> simp [D.flt] at h
theorem fltL_lay : ∀ (n : Nat) (ds : List D), fltL n ds = true → PyData.canLayAll0 (pyL ds) = true
  | _, [], _ => by simp [pyL, PyData.canLayAll0]
  | n, d :: ds, h => by
    rw [fltL, Bool.and_eq_true] at h
    simp [pyL, PyData.canLayAll0, flt_lay n d h.1, fltL_lay n ds h.2]
end
mutual
theorem flt_depth : ∀ (n : Nat) (d : D), d.flt n = true → d.py.depth ≤ n
  | _, .non, _ => by simp [D.py, PyData.depth]
  | _, .bl _, _ => by simp [D.py, PyData.depth]
  | _, .int _, _ => by simp [D.py, PyData.depth]
  | n, .str x, h => by simp [D.py, PyData.depth]
  | 0, .tup _, h => by simp [D.flt] at h
  | 0, .lst _, h => by simp [D.flt] at h
  | n + 1, .tup ds, h => by
    have := fltL_depth n ds (by simpa [D.flt] using h)
    simp only [D.py, PyData.depth]; omega
  | n + 1, .lst ds, h => by
    have := fltL_depth n ds (by simpa [D.flt] using h)
    simp only [D.py, PyData.depth]; omega
  | n, .obj _ _, h => by cases n <;> simp [D.flt] at h
  | n, .dct _, h => by cases n <;> simp [D.flt] at h
  | n, .iset _, h => by cases n <;> simp [D.flt] at h
  | n, .frz _, h => by cases n <;> simp [D.flt] at h
theorem fltL_depth : ∀ (n : Nat) (ds : List D), fltL n ds = true → PyData.depthAll (pyL ds) ≤ n
  | _, [], _ => by simp [pyL, PyData.depthAll]
  | n, d :: ds, h => by
    rw [fltL, Bool.and_eq_true] at h
    have h1 := flt_depth n d h.1
    have h2 := fltL_depth n ds h.2
    simp only [pyL, PyData.depthAll]; omega
end
theorem flt_shaped {d : D} (h : d.flt 60 = true) : SeqAt.shaped d.py = true := by
  show (d.py.canLay0 && decide (d.py.depth ≤ 64)) = true
  rw [Bool.and_eq_true]
  have := flt_depth 60 d h
  exact ⟨flt_lay 60 d h, decide_eq_true (by omega)⟩
section
variable {G : Gx} {M : Addr → Prop} {H : Hp} {K : PySem.W.Frag}
mutual
theorem Rep.dp : ∀ (n : Nat) (d : D) (v : V), d.flt n = true → Rep G M H v d → Dp K H v d.py
  | _, .non, _, _, h => by cases h; simp only [D.py]; exact .non
  | _, .bl _, _, _, h => by cases h; simp only [D.py]; exact .bl _
  | _, .int _, _, _, h => by cases h; simp only [D.py]; exact .int _
  | _, .str _, _, _, h => by cases h; simp only [D.py]; exact .str _
  | 0, .tup _, _, h, _ => by simp [D.flt] at h
  | 0, .lst _, _, h, _ => by simp [D.flt] at h
  | n + 1, .tup ds, _, h, r => by
    cases r with
    | tup h1 h2 h0 h3 => simp only [D.py]; exact .tup (.inl (.inr ⟨_, h2⟩)) (RepL.dp n ds _ (by simpa [D.flt] using h) h3)
  | n + 1, .lst ds, _, h, r => by
    cases r with
    | lst h1 h2 h3 => simp only [D.py]; exact .lst (.inl (.inl h2)) (RepL.dp n ds _ (by simpa [D.flt] using h) h3)
  | n, .obj _ _, _, h, _ => by cases n <;> simp [D.flt] at h
  | n, .dct _, _, h, _ => by cases n <;> simp [D.flt] at h
  | n, .iset _, _, h, _ => by cases n <;> simp [D.flt] at h
  | n, .frz _, _, h, _ => by cases n <;> simp [D.flt] at h
theorem RepL.dp : ∀ (n : Nat) (ds : List D) (vs : List V), fltL n ds = true → RepL G M H vs ds → DpAll K H vs (pyL ds)
  | _, [], _, _, h => by cases h; simp only [pyL]; exact .nil
  | n, d :: ds, _, h, r => by
    rw [fltL, Bool.and_eq_true] at h
    cases r with
    | cons h1 h2 => simp only [pyL]; exact .cons (Rep.dp n d _ h.1 h1) (RepL.dp n ds _ h.2 h2)
end
theorem RepT.dp {n : Nat} {d : D} {v : V} (h : d.flt n = true) (r : RepT G M H v d) : Dp K H v d.py := by
  rcases r with r | ⟨a, rfl, r⟩
  · exact r.dp n d v h
  · cases n with
    | zero => cases r <;> simp [D.flt] at h
    | succ n =>
      cases r with
      | lst h2 h3 => simp only [D.py]; exact .lst (.inl (.inl h2)) (h3.dp n _ _ (by simpa [D.flt] using h))
      | obj _ _ => simp [D.flt] at h
      | dct _ _ => simp [D.flt] at h
      | iset _ _ => simp [D.flt] at h
end

/-- == of two data -/
def dEq : D → D → Option D := fun a b => if a.flt 60 = true ∧ b.flt 60 = true then some (.bl (PyData.eqv a.py b.py)) else none
def dNe : D → D → Option D := fun a b => if a.flt 60 = true ∧ b.flt 60 = true then some (.bl (!PyData.eqv a.py b.py)) else none
def isNon : D → Bool
  | .non => true
  | _ => false
def dIsN : D → D → Option D := fun a b => match b with | .non => some (.bl (isNon a)) | _ => none
def dNotN : D → D → Option D := fun a b => match b with | .non => some (.bl (!isNon a)) | _ => none
def dIsB : D → D → Option D := fun a b => match a, b with | .bl x, .bl y => some (.bl (decide (x = y))) | _, _ => none
def dNotB : D → D → Option D := fun a b => match a, b with | .bl x, .bl y => some (.bl (!decide (x = y))) | _, _ => none
def dIn : D → D → Option D := fun a b => match b with
  | .lst ds => if a.flt 60 = true ∧ fltL 59 ds = true then some (.bl ((pyL ds).any fun z => PyData.eqv z a.py)) else none
  | _ => none
def dNotIn : D → D → Option D := fun a b => match b with
  | .lst ds => if a.flt 60 = true ∧ fltL 59 ds = true then some (.bl (!(pyL ds).any fun z => PyData.eqv z a.py)) else none
  | _ => none
section
variable {G : Gx} {X : Cx} {M : Addr → Prop} {H : Hp}
theorem v_eq (hu : X.A.units + 65 < cLine) : VOp G X (compareOp .Eq) dEq := by
  refine ⟨_, op_eqD (by omega), fun M H x y dx dy d Q hm rx ry e q => ?_⟩
  unfold dEq at e
  split at e
  · rename_i h
    cases e
    exact ⟨_, _, rx.dp h.1, ry.dp h.2, flt_shaped h.1, flt_shaped h.2, q _ H (.refl H) (.bl _)⟩
  · cases e
theorem v_ne (hu : X.A.units + 65 < cLine) : VOp G X (compareOp .NotEq) dNe := by
  refine ⟨_, op_neD (by omega), fun M H x y dx dy d Q hm rx ry e q => ?_⟩
  unfold dNe at e
  split at e
  · rename_i h
    cases e
    exact ⟨_, _, rx.dp h.1, ry.dp h.2, flt_shaped h.1, flt_shaped h.2, q _ H (.refl H) (.bl _)⟩
  · cases e
theorem flt_lst {ds : List D} (h : fltL 59 ds = true) : (D.lst ds).flt 60 = true := by simpa [D.flt] using h
theorem v_inL (hu : X.A.units + 65 < cLine) : VOp G X (compareOp .In) dIn := by
  refine ⟨_, op_inD hu, fun M H x y dx dy d Q hm rx ry e q => ?_⟩
  unfold dIn at e
  split at e
  · rename_i ds
    split at e
    · rename_i h
      cases e
      have f2 := flt_lst h.2
      have := ry.dp (K := X.K) f2
      have s2 := flt_shaped f2
      simp only [D.py] at this s2
      exact ⟨_, _, rx.dp h.1, this, flt_shaped h.1, s2, q _ H (.refl H) (.bl _)⟩
    · cases e
  · cases e
theorem v_notInL (hu : X.A.units + 65 < cLine) : VOp G X (compareOp .NotIn) dNotIn := by
  refine ⟨_, op_notInD hu, fun M H x y dx dy d Q hm rx ry e q => ?_⟩
  unfold dNotIn at e
  split at e
  · rename_i ds
    split at e
    · rename_i h
      cases e
      have f2 := flt_lst h.2
      have := ry.dp (K := X.K) f2
      have s2 := flt_shaped f2
      simp only [D.py] at this s2
      exact ⟨_, _, rx.dp h.1, this, flt_shaped h.1, s2, q _ H (.refl H) (.bl _)⟩
    · cases e
  · cases e
theorem RepT.is_non {v : V} {d : D} (r : RepT G M H v d) : decide (v = V.non) = isNon d := by
  rcases r with r | ⟨a, rfl, r⟩
  · cases r <;> simp [isNon]
  · cases r <;> simp [isNon]
theorem v_isN : VOp G X (compareOp .Is) dIsN := by
  refine ⟨_, op_isN, fun M H x y dx dy d Q hm rx ry e q => ?_⟩
  unfold dIsN at e
  split at e
  · cases e
    refine ⟨ry.non, ?_⟩
    rw [rx.is_non]
    exact q _ H (.refl H) (.bl _)
  · cases e
theorem v_notN : VOp G X (compareOp .IsNot) dNotN := by
  refine ⟨_, op_notN, fun M H x y dx dy d Q hm rx ry e q => ?_⟩
  unfold dNotN at e
  split at e
  · cases e
    refine ⟨ry.non, ?_⟩
    rw [rx.is_non]
    exact q _ H (.refl H) (.bl _)
  · cases e
theorem v_isB : VOp G X (compareOp .Is) dIsB := by
  refine ⟨_, op_isBl, fun M H x y dx dy d Q hm rx ry e q => ?_⟩
  unfold dIsB at e
  split at e
  · cases e
    exact ⟨_, _, rx.bl, ry.bl, q _ H (.refl H) (.bl _)⟩
  · cases e
theorem v_notB : VOp G X (compareOp .IsNot) dNotB := by
  refine ⟨_, op_notBl, fun M H x y dx dy d Q hm rx ry e q => ?_⟩
  unfold dNotB at e
  split at e
  · cases e
    exact ⟨_, _, rx.bl, ry.bl, q _ H (.refl H) (.bl _)⟩
  · cases e

/-! ### expressions of two parts -/
def xBin (g : D → D → Option D) (f1 f2 : FE) : FE := fun ρ => (f1 ρ).bind fun z1 => (f2 z1.2).bind fun z2 => (z1.1.rd z2.2).bind fun d1 => (z2.1.rd z2.2).bind fun d2 => (g d1 d2).bind fun d => some (.val d, z2.2)
def xBinN (g : D → D → Option D) (f1 f2 : FE) : FN := fun ρ => (f1 ρ).bind fun z1 => (f2 z1.2).bind fun z2 => (z1.1.rd z2.2).bind fun d1 => (z2.1.rd z2.2).bind fun d2 => (g d1 d2).bind fun d => some (d, z2.2)
def xBinT (g : D → D → Option D) (f1 f2 : FE) : FT := fun ρ => (f1 ρ).bind fun z1 => (f2 z1.2).bind fun z2 => (z1.1.rd z2.2).bind fun d1 => (z2.1.rd z2.2).bind fun d2 => (g d1 d2).bind fun d => match d with | .bl b => some (b, z2.2) | _ => none
variable {a b : Expr} {f1 f2 : FE} {g : D → D → Option D} {pos : Pos}
/-- the readings of two parts, joined -/
theorem two_run {t1 t2 : TE}
    (h1 : ∀ N σ H ρ r ρ' Q, EnvOk G N H σ ρ → f1 ρ = some (r, ρ') → (∀ v H', GoE G N σ ρ H ρ' H' → RR G N σ ρ' H' v r → Q v H') → t1 σ H Q)
    (h2 : ∀ N σ H ρ r ρ' Q, EnvOk G N H σ ρ → f2 ρ = some (r, ρ') → (∀ v H', GoE G N σ ρ H ρ' H' → RR G N σ ρ' H' v r → Q v H') → t2 σ H Q)
    {N : Addr → Prop} {σ : L2.St} {H : Hp} {ρ : Ev} {z1 z2 : R × Ev} {d1 d2 : D} {Q : V → V → Hp → Prop} (I : EnvOk G N H σ ρ) (e1 : f1 ρ = some z1) (e2 : f2 z1.2 = some z2) (e3 : z1.1.rd z2.2 = some d1) (e4 : z2.1.rd z2.2 = some d2)
    (k : ∀ x y H2, GoE G N σ ρ H z2.2 H2 → RepT G (MM N σ z2.2) H2 x d1 → RepT G (MM N σ z2.2) H2 y d2 → Q x y H2) : t1 σ H fun x H1 => t2 σ H1 fun y H2 => Q x y H2 := by
  refine h1 N σ H ρ z1.1 z1.2 _ I e1 fun x H1 g1 r1 => ?_
  refine h2 N σ H1 z1.2 z2.1 z2.2 _ g1.env e2 fun y H2 g2 r2 => ?_
  exact k x y H2 (g1.trans g2) ((g2.rr r1).repT g2.env e3) (r2.repT g2.env e4)
theorem DE.bin {op : Operator} (h : VOp G X (binaryOp op) g) (ha : DE G X a f1) (hb : DE G X b f2) : DE G X (.BinOp a op b pos) (xBin g f1 f2) := by
  obtain ⟨r, hr, k⟩ := h.ex
  obtain ⟨t1, p1, q1⟩ := ha.ex
  obtain ⟨t2, p2, q2⟩ := hb.ex
  refine ⟨_, pe_op hr p1 p2, fun N σ H ρ rr ρ' Q I e q => ?_⟩
  obtain ⟨z1, e1, e⟩ := Option.bind_eq_some_iff.mp e
  obtain ⟨z2, e2, e⟩ := Option.bind_eq_some_iff.mp e
  obtain ⟨d1, e3, e⟩ := Option.bind_eq_some_iff.mp e
  obtain ⟨d2, e4, e⟩ := Option.bind_eq_some_iff.mp e
  obtain ⟨d, e5, e⟩ := Option.bind_eq_some_iff.mp e
  cases e
  refine two_run q1 q2 I e1 e2 e3 e4 fun x y H2 g2 rx ry => ?_
  refine k _ H2 x y d1 d2 d Q g2.env.domM rx ry e5 fun v H' s rv => ?_
  exact q v H' (g2.trans (GoE.grow g2.env s)) rv
theorem DN.bin {op : Operator} (h : VOpN G X (binaryOp op) g) (ha : DE G X a f1) (hb : DE G X b f2) : DN G X (.BinOp a op b pos) (xBinN g f1 f2) := by
  obtain ⟨r, hr, k⟩ := h.ex
  obtain ⟨t1, p1, q1⟩ := ha.ex
  obtain ⟨t2, p2, q2⟩ := hb.ex
  refine ⟨_, pe_op hr p1 p2, fun N σ H ρ rr ρ' Q I e q => ?_⟩
  obtain ⟨z1, e1, e⟩ := Option.bind_eq_some_iff.mp e
  obtain ⟨z2, e2, e⟩ := Option.bind_eq_some_iff.mp e
  obtain ⟨d1, e3, e⟩ := Option.bind_eq_some_iff.mp e
  obtain ⟨d2, e4, e⟩ := Option.bind_eq_some_iff.mp e
  obtain ⟨d, e5, e⟩ := Option.bind_eq_some_iff.mp e
  cases e
  refine two_run q1 q2 I e1 e2 e3 e4 fun x y H2 g2 rx ry => ?_
  refine k _ H2 x y d1 d2 _ Q g2.env.domM rx ry e5 fun p H' s hp o => ?_
  have hH : H p = none := by
    cases z : H p with
    | none => rfl
    | some o => exact absurd hp (g2.dom p (by rw [z]; exact (fun z => nomatch z)))
  refine q p H' ⟨g2.env.more s hp o.here, fun a o e n => s a o (g2.fr a o e n), fun a z => ?_, g2.shape⟩ hH o
  exact (GoE.grow g2.env s).dom a (g2.dom a z)
theorem DE.cmp {op : CmpOp} (h : VOp G X (compareOp op) g) (ha : DE G X a f1) (hb : DE G X b f2) (hm : behindInMarks op b = false) : DE G X (.Compare a [op] [b] pos) (xBin g f1 f2) := by
  obtain ⟨r, hr, k⟩ := h.ex
  obtain ⟨t1, p1, q1⟩ := ha.ex
  obtain ⟨t2, p2, q2⟩ := hb.ex
  refine ⟨_, pe_cmpR hr p1 p2 hm, fun N σ H ρ rr ρ' Q I e q => ?_⟩
  obtain ⟨z1, e1, e⟩ := Option.bind_eq_some_iff.mp e
  obtain ⟨z2, e2, e⟩ := Option.bind_eq_some_iff.mp e
  obtain ⟨d1, e3, e⟩ := Option.bind_eq_some_iff.mp e
  obtain ⟨d2, e4, e⟩ := Option.bind_eq_some_iff.mp e
  obtain ⟨d, e5, e⟩ := Option.bind_eq_some_iff.mp e
  cases e
  refine two_run q1 q2 I e1 e2 e3 e4 fun x y H2 g2 rx ry => ?_
  refine k _ H2 x y d1 d2 d Q g2.env.domM rx ry e5 fun v H' s rv => ?_
  exact q v H' (g2.trans (GoE.grow g2.env s)) rv
theorem DT.cmp {op : CmpOp} (h : VOp G X (compareOp op) g) (ha : DE G X a f1) (hb : DE G X b f2) (hm : behindInMarks op b = false) : DT G X (.Compare a [op] [b] pos) (xBinT g f1 f2) := by
  obtain ⟨r, hr, k⟩ := h.ex
  obtain ⟨t1, p1, q1⟩ := ha.ex
  obtain ⟨t2, p2, q2⟩ := hb.ex
  refine ⟨_, pt_cmpR hr p1 p2 hm, fun N σ H ρ rr ρ' Q I e q => ?_⟩
  obtain ⟨z1, e1, e⟩ := Option.bind_eq_some_iff.mp e
  obtain ⟨z2, e2, e⟩ := Option.bind_eq_some_iff.mp e
  obtain ⟨d1, e3, e⟩ := Option.bind_eq_some_iff.mp e
  obtain ⟨d2, e4, e⟩ := Option.bind_eq_some_iff.mp e
  obtain ⟨d, e5, e⟩ := Option.bind_eq_some_iff.mp e
  split at e
  · cases e
    refine two_run q1 q2 I e1 e2 e3 e4 fun x y H2 g2 rx ry => ?_
    refine k _ H2 x y d1 d2 _ _ g2.env.domM rx ry e5 fun v H' s rv => ?_
    cases rv
    exact ⟨_, rfl, q H' (g2.trans (GoE.grow g2.env s))⟩
  · cases e
end
end DL

set_option maxRecDepth 100000
namespace DL
open PySem PySem.Spec PyProof.Rows L2
section
variable {G : Gx} {X : Cx} {a b c : Expr} {es : List Expr} {f f1 f2 : FE} {k : FT} {pos : Pos}

/-! ### truth -/
def dTru : D → Option Bool
  | .non => some false
  | .bl b => some b
  | .int i => some (i != 0)
  | .tup xs => some (!xs.isEmpty)
  | .lst xs => some (!xs.isEmpty)
  | _ => none
theorem RepL.emp {M : Addr → Prop} {H : Hp} {vs : List V} {ds : List D} (h : RepL G M H vs ds) : vs.isEmpty = ds.isEmpty := by cases h <;> rfl
def xTru (f : FE) : FT := fun ρ => (f ρ).bind fun z => (z.1.rd z.2).bind fun d => (dTru d).bind fun b => some (b, z.2)
theorem DT.val (ha : DE G X a f) (he : ∀ whole, isTrue a X.env whole = (do let v ← whole; standAt a.pos; holding [v] (truthy v))) : DT G X a (xTru f) := by
  obtain ⟨t, p, q⟩ := ha.ex
  refine ⟨_, pt_truth p he, fun N σ H ρ r ρ' Q I e k => ?_⟩
  obtain ⟨z, e1, e⟩ := Option.bind_eq_some_iff.mp e
  obtain ⟨d, e2, e⟩ := Option.bind_eq_some_iff.mp e
  obtain ⟨b, e3, e⟩ := Option.bind_eq_some_iff.mp e
  cases e
  refine q N σ H ρ z.1 z.2 _ I e1 fun v H1 g r1 => ?_
  have rt := r1.repT g.env e2
  refine ⟨_, ?_, k H1 g⟩
  cases d with
  | non => cases e3; rw [rt.non]; rfl
  | bl b => cases e3; rw [rt.bl]; rfl
  | int b => cases e3; rw [rt.int]; rfl
  | tup xs =>
    cases e3
    obtain ⟨p, o, ys, rfl, h1, h0, h2⟩ := rt.tup
    exact .inr (.inl ⟨ys, .inl (.inr ⟨o, h1⟩), by rw [h2.emp]⟩)
  | lst xs =>
    cases e3
    obtain ⟨p, ys, rfl, h1, h2⟩ := rt.lst
    exact .inl ⟨ys, .of h1, by rw [h2.emp]⟩
  | _ => cases e3
def xNot (k : FT) : FT := fun ρ => (k ρ).bind fun z => some (!z.1, z.2)
theorem DT.not (ha : DT G X a k) : DT G X (.UnaryOp .Not a pos) (xNot k) := by
  obtain ⟨t, p, q⟩ := ha.ex
  refine ⟨_, pt_not p, fun N σ H ρ r ρ' Q I e k => ?_⟩
  obtain ⟨z, e1, e⟩ := Option.bind_eq_some_iff.mp e
  cases e
  exact q N σ H ρ z.1 z.2 _ I e1 fun H1 g => k H1 g
theorem DW.and1 (ha : DT G X a k) : DW G X (.BoolOp .And [a] pos) k := by
  obtain ⟨t, p, q⟩ := ha.ex
  exact ⟨_, pw_and1 p, q⟩
theorem DW.or1 (ha : DT G X a k) : DW G X (.BoolOp .Or [a] pos) k := by
  obtain ⟨t, p, q⟩ := ha.ex
  exact ⟨_, pw_or1 p, q⟩
def xAndT (k k2 : FT) : FT := fun ρ => (k ρ).bind fun z => match z.1 with | true => k2 z.2 | false => some (false, z.2)
def xOrT (k k2 : FT) : FT := fun ρ => (k ρ).bind fun z => match z.1 with | true => some (true, z.2) | false => k2 z.2
theorem DW.and {k2 : FT} {rest : List Expr} (ha : DT G X a k) (hb : DW G X (.BoolOp .And (b :: rest) pos) k2) : DW G X (.BoolOp .And (a :: b :: rest) pos) (xAndT k k2) := by
  obtain ⟨t, p, q⟩ := ha.ex
  obtain ⟨t2, p2, q2⟩ := hb.ex
  refine ⟨_, pw_and p p2, fun N σ H ρ r ρ' Q I e k => ?_⟩
  obtain ⟨⟨b, ρ1⟩, e1, e⟩ := Option.bind_eq_some_iff.mp e
  refine q N σ H ρ b ρ1 _ I e1 fun H1 g => ?_
  cases b with
  | true => exact q2 N σ H1 ρ1 r ρ' _ g.env e fun H2 g2 => k H2 (g.trans g2)
  | false => cases e; exact k H1 g
theorem DW.or {k2 : FT} {rest : List Expr} (ha : DT G X a k) (hb : DW G X (.BoolOp .Or (b :: rest) pos) k2) : DW G X (.BoolOp .Or (a :: b :: rest) pos) (xOrT k k2) := by
  obtain ⟨t, p, q⟩ := ha.ex
  obtain ⟨t2, p2, q2⟩ := hb.ex
  refine ⟨_, pw_or p p2, fun N σ H ρ r ρ' Q I e k => ?_⟩
  obtain ⟨⟨b, ρ1⟩, e1, e⟩ := Option.bind_eq_some_iff.mp e
  refine q N σ H ρ b ρ1 _ I e1 fun H1 g => ?_
  cases b with
  | false => exact q2 N σ H1 ρ1 r ρ' _ g.env e fun H2 g2 => k H2 (g.trans g2)
  | true => cases e; exact k H1 g
theorem DW.dt (h : DW G X a k) : DT G X a k := by
  obtain ⟨t, p, q⟩ := h.ex
  exact ⟨t, p.pt, q⟩
/-- and, or, not of bools as values -/
def rdB (z : R × Ev) : Option Bool := (z.1.rd z.2).bind fun d => match d with | .bl b => some b | _ => none
theorem rdB_of {N : Addr → Prop} {σ : L2.St} {H : Hp} {v : V} {z : R × Ev} {b : Bool} (I : EnvOk G N H σ z.2) (r : RR G N σ z.2 H v z.1) (e : rdB z = some b) : v = .bl b := by
  obtain ⟨d, e1, e⟩ := Option.bind_eq_some_iff.mp e
  split at e
  · cases e; exact (r.repT I e1).bl
  · cases e
def xAnd (f f2 : FE) : FE := fun ρ => (f ρ).bind fun z => (rdB z).bind fun b => match b with | true => f2 z.2 | false => some (.val (.bl false), z.2)
def xOr (f f2 : FE) : FE := fun ρ => (f ρ).bind fun z => (rdB z).bind fun b => match b with | true => some (.val (.bl true), z.2) | false => f2 z.2
def xNotV (f : FE) : FE := fun ρ => (f ρ).bind fun z => (rdB z).bind fun b => some (.val (.bl (!b)), z.2)
theorem DE.one {op} (h : DE G X a f) : DE G X (.BoolOp op [a] pos) f := by
  obtain ⟨t, p, q⟩ := h.ex
  exact ⟨_, pe_one p, q⟩
theorem DE.and {rest : List Expr} (ha : DE G X a f) (hb : DE G X (.BoolOp .And (b :: rest) pos) f2) : DE G X (.BoolOp .And (a :: b :: rest) pos) (xAnd f f2) := by
  obtain ⟨t, p, q⟩ := ha.ex
  obtain ⟨t2, p2, q2⟩ := hb.ex
  refine ⟨_, pe_and p p2, fun N σ H ρ r ρ' Q I e k => ?_⟩
  obtain ⟨z, e1, e⟩ := Option.bind_eq_some_iff.mp e
  obtain ⟨b, e2, e⟩ := Option.bind_eq_some_iff.mp e
  refine q N σ H ρ z.1 z.2 _ I e1 fun v H1 g r1 => ⟨_, rdB_of g.env r1 e2, ?_⟩
  cases b with
  | true => exact q2 N σ H1 z.2 r ρ' _ g.env e fun v H2 g2 => k v H2 (g.trans g2)
  | false => cases e; exact k _ H1 g (.bl false)
theorem DE.or {rest : List Expr} (ha : DE G X a f) (hb : DE G X (.BoolOp .Or (b :: rest) pos) f2) : DE G X (.BoolOp .Or (a :: b :: rest) pos) (xOr f f2) := by
  obtain ⟨t, p, q⟩ := ha.ex
  obtain ⟨t2, p2, q2⟩ := hb.ex
  refine ⟨_, pe_or p p2, fun N σ H ρ r ρ' Q I e k => ?_⟩
  obtain ⟨z, e1, e⟩ := Option.bind_eq_some_iff.mp e
  obtain ⟨b, e2, e⟩ := Option.bind_eq_some_iff.mp e
  refine q N σ H ρ z.1 z.2 _ I e1 fun v H1 g r1 => ⟨_, rdB_of g.env r1 e2, ?_⟩
  cases b with
  | false => exact q2 N σ H1 z.2 r ρ' _ g.env e fun v H2 g2 => k v H2 (g.trans g2)
  | true => cases e; exact k _ H1 g (.bl true)
theorem DE.not (ha : DE G X a f) : DE G X (.UnaryOp .Not a pos) (xNotV f) := by
  obtain ⟨t, p, q⟩ := ha.ex
  refine ⟨_, pe_not p, fun N σ H ρ r ρ' Q I e k => ?_⟩
  obtain ⟨z, e1, e⟩ := Option.bind_eq_some_iff.mp e
  obtain ⟨b, e2, e⟩ := Option.bind_eq_some_iff.mp e
  cases e
  exact q N σ H ρ z.1 z.2 _ I e1 fun v H1 g r1 => ⟨_, rdB_of g.env r1 e2, k _ H1 g (.bl _)⟩
def xIf (k : FT) (f f2 : FE) : FE := fun ρ => (k ρ).bind fun z => match z.1 with | true => f z.2 | false => f2 z.2
theorem DE.ifExp (hc : DT G X c k) (ha : DE G X a f) (hb : DE G X b f2) : DE G X (.IfExp c a b pos) (xIf k f f2) := by
  obtain ⟨t0, p0, q0⟩ := hc.ex
  obtain ⟨t, p, q⟩ := ha.ex
  obtain ⟨t2, p2, q2⟩ := hb.ex
  refine ⟨_, pe_ifExp p0 p p2, fun N σ H ρ r ρ' Q I e k => ?_⟩
  obtain ⟨⟨b, ρ1⟩, e1, e⟩ := Option.bind_eq_some_iff.mp e
  refine q0 N σ H ρ b ρ1 _ I e1 fun H1 g => ?_
  cases b with
  | true => exact q N σ H1 ρ1 r ρ' _ g.env e fun v H2 g2 => k v H2 (g.trans g2)
  | false => exact q2 N σ H1 ρ1 r ρ' _ g.env e fun v H2 g2 => k v H2 (g.trans g2)
def xNeg (f : FE) : FE := fun ρ => (f ρ).bind fun z => (z.1.rd z.2).bind fun d => match d with | .int i => some (.val (.int (-i)), z.2) | _ => none
theorem DE.neg (ha : DE G X a f) : DE G X (.UnaryOp .USub a pos) (xNeg f) := by
  obtain ⟨t, p, q⟩ := ha.ex
  refine ⟨_, pe_un un_neg p, fun N σ H ρ r ρ' Q I e k => ?_⟩
  obtain ⟨z, e1, e⟩ := Option.bind_eq_some_iff.mp e
  obtain ⟨d, e2, e⟩ := Option.bind_eq_some_iff.mp e
  split at e
  · cases e
    exact q N σ H ρ z.1 z.2 _ I e1 fun v H1 g r1 => ⟨_, (r1.repT g.env e2).int, k _ H1 g (.int _)⟩
  · cases e

/-! ### items, slices -/
def dIx : D → D → Option D := fun a b => match a, b with
  | .lst xs, .int i => atI xs i
  | .tup xs, .int i => atI xs i
  | .frz xs, .int i => atI xs i
  | _, _ => none
theorem RepL.atI {M : Addr → Prop} {H : Hp} {vs : List V} {ds : List D} {i : Int} {d : D} (h : RepL G M H vs ds) (e : L2.atI ds i = some d) : ∃ v, L2.atI vs i = some v ∧ Rep G M H v d := by
  unfold L2.atI at e ⊢
  rw [h.length]
  obtain ⟨j, e1, e2⟩ := Option.bind_eq_some_iff.mp e
  rw [e1]
  exact h.get e2
theorem DE.ix (ha : DE G X a f1) (hb : DE G X b f2) (hs : PlainIx b) (hK : G.K = X.K) : DE G X (.Subscript a b pos) (xBin dIx f1 f2) := by
  obtain ⟨t1, p1, q1⟩ := ha.ex
  obtain ⟨t2, p2, q2⟩ := hb.ex
  refine ⟨_, pe_ix ix_seq p1 p2 hs, fun N σ H ρ rr ρ' Q I e q => ?_⟩
  obtain ⟨z1, e1, e⟩ := Option.bind_eq_some_iff.mp e
  obtain ⟨z2, e2, e⟩ := Option.bind_eq_some_iff.mp e
  obtain ⟨d1, e3, e⟩ := Option.bind_eq_some_iff.mp e
  obtain ⟨d2, e4, e⟩ := Option.bind_eq_some_iff.mp e
  obtain ⟨d, e5, e⟩ := Option.bind_eq_some_iff.mp e
  cases e
  refine two_run q1 q2 I e1 e2 e3 e4 fun x y H2 g2 rx ry => ?_
  unfold dIx at e5
  split at e5
  · obtain ⟨p, vs, rfl, h1, h2⟩ := rx.lst
    obtain ⟨v, h3, h4⟩ := h2.atI e5
    exact .inl ⟨p, vs, _, v, rfl, ry.int, .of h1, h3, q v H2 g2 h4⟩
  · obtain ⟨p, o, vs, rfl, h1, h0, h2⟩ := rx.tup
    obtain ⟨v, h3, h4⟩ := h2.atI e5
    exact .inr (.inl ⟨p, vs, _, v, rfl, ry.int, .inl (.inr ⟨o, h1⟩), h3, q v H2 g2 h4⟩)
  · obtain ⟨p, vs, rfl, h1, h2⟩ := rx.frz
    obtain ⟨v, h3, h4⟩ := h2.atI e5
    exact .inl ⟨p, vs, _, v, rfl, ry.int, hK ▸ h1, h3, q v H2 g2 h4⟩
  · cases e5
abbrev FO := Ev → Option (Option Int × Ev)
structure DO (G : Gx) (X : Cx) (e : Option Expr) (f : FO) : Prop where
  ex : ∃ t, PO X e t ∧ ∀ N σ H ρ r ρ' Q, EnvOk G N H σ ρ → f ρ = some (r, ρ') → (∀ H', GoE G N σ ρ H ρ' H' → Q r H') → t σ H Q
def oNone : FO := fun ρ => some (none, ρ)
def oSome (f : FE) : FO := fun ρ => (f ρ).bind fun z => (z.1.rd z.2).bind fun d => match d with | .int i => some (some i, z.2) | _ => none
theorem DO.non : DO G X none oNone := ⟨_, po_none, fun N σ H ρ r ρ' Q I e q => by cases e; exact q H (.refl I)⟩
theorem DO.som (h : DE G X a f) : DO G X (some a) (oSome f) := by
  obtain ⟨t, p, q⟩ := h.ex
  refine ⟨_, po_some p, fun N σ H ρ r ρ' Q I e k => ?_⟩
  obtain ⟨z, e1, e⟩ := Option.bind_eq_some_iff.mp e
  obtain ⟨d, e2, e⟩ := Option.bind_eq_some_iff.mp e
  split at e
  · cases e
    exact q N σ H ρ z.1 z.2 _ I e1 fun v H1 g r1 => ⟨_, (r1.repT g.env e2).int, k H1 g⟩
  · cases e
def cutD (xs : List D) (lo hi : Option Int) : List D := (xs.drop (HT.sIx xs.length 0 lo)).take (HT.sIx xs.length xs.length hi - HT.sIx xs.length 0 lo)
theorem RepL.cut {M : Addr → Prop} {H : Hp} {vs : List V} {ds : List D} (h : RepL G M H vs ds) (lo hi : Option Int) : RepL G M H (cutV vs lo hi) (cutD ds lo hi) := by
  unfold cutV cutD
  rw [h.length]
  exact (h.drop _).take _
def xSlL (f : FE) (l h : FO) : FN := fun ρ => (f ρ).bind fun z => (l z.2).bind fun y => (h y.2).bind fun w => (z.1.rd w.2).bind fun d => match d with | .lst xs => some (.lst (cutD xs y.1 w.1), w.2) | _ => none
def xSlT (f : FE) (l h : FO) : FE := fun ρ => (f ρ).bind fun z => (l z.2).bind fun y => (h y.2).bind fun w => (z.1.rd w.2).bind fun d => match d with | .tup xs => some (.val (.tup (cutD xs y.1 w.1)), w.2) | _ => none
theorem back_none {H H2 : Hp} {p : Addr} (h : ∀ a, H a ≠ none → H2 a ≠ none) (hp : H2 p = none) : H p = none := by
  cases z : H p with
  | none => rfl
  | some o => exact absurd hp (h p (by rw [z]; exact (fun z => nomatch z)))
/-- a new object at the end of a way -/
theorem GoE.newN {N : Addr → Prop} {σ : L2.St} {H H2 H' : Hp} {ρ ρ' : Ev} {p : Addr} (g : GoE G N σ ρ H ρ' H2) (s : Same H2 H') (hp : H2 p = none) (hp' : H' p ≠ none) : GoE G (addN N p) σ ρ H ρ' H' ∧ H p = none :=
  ⟨⟨g.env.more s hp hp', fun a o e n => s a o (g.fr a o e n), fun a z => (GoE.grow g.env s).dom a (g.dom a z), g.shape⟩, back_none g.dom hp⟩
theorem DN.slice {lo hi : Option Expr} {l h : FO} {p2 : Pos} (ha : DE G X a f) (hl : DO G X lo l) (hh : DO G X hi h) : DN G X (.Subscript a (.Slice lo hi none p2) pos) (xSlL f l h) := by
  obtain ⟨t, p, q⟩ := ha.ex
  obtain ⟨t1, p1, q1⟩ := hl.ex
  obtain ⟨t2, p3, q2⟩ := hh.ex
  refine ⟨_, pe_slice sl_list p p1 p3, fun N σ H ρ rr ρ' Q I e k => ?_⟩
  obtain ⟨z, e1, e⟩ := Option.bind_eq_some_iff.mp e
  obtain ⟨y, e2, e⟩ := Option.bind_eq_some_iff.mp e
  obtain ⟨w, e3, e⟩ := Option.bind_eq_some_iff.mp e
  obtain ⟨d, e4, e⟩ := Option.bind_eq_some_iff.mp e
  split at e
  · rename_i xs
    cases e
    refine q N σ H ρ z.1 z.2 _ I e1 fun v H1 g1 r1 => ?_
    refine q1 N σ H1 z.2 y.1 y.2 _ g1.env e2 fun H2 g2 => ?_
    refine q2 N σ H2 y.2 w.1 w.2 _ g2.env e3 fun H3 g3 => ?_
    have g := (g1.trans g2).trans g3
    obtain ⟨a, vs, rfl, h1, h2⟩ := ((g3.rr (g2.rr r1)).repT g.env e4).lst
    refine ⟨a, vs, rfl, .of h1, fun p hp => ?_⟩
    obtain ⟨gn, hp0⟩ := g.newN (same_new (o := .lst (cutV vs y.1 w.1)) hp) hp (by rw [upd_same]; exact (fun z => nomatch z))
    exact k p _ gn hp0 (new_lst hp (h2.cut _ _))
  · cases e
theorem DE.sliceT {lo hi : Option Expr} {l h : FO} {p2 : Pos} (ha : DE G X a f) (hl : DO G X lo l) (hh : DO G X hi h) : DE G X (.Subscript a (.Slice lo hi none p2) pos) (xSlT f l h) := by
  obtain ⟨t, p, q⟩ := ha.ex
  obtain ⟨t1, p1, q1⟩ := hl.ex
  obtain ⟨t2, p3, q2⟩ := hh.ex
  refine ⟨_, pe_slice sl_tupF p p1 p3, fun N σ H ρ rr ρ' Q I e k => ?_⟩
  obtain ⟨z, e1, e⟩ := Option.bind_eq_some_iff.mp e
  obtain ⟨y, e2, e⟩ := Option.bind_eq_some_iff.mp e
  obtain ⟨w, e3, e⟩ := Option.bind_eq_some_iff.mp e
  obtain ⟨d, e4, e⟩ := Option.bind_eq_some_iff.mp e
  split at e
  · rename_i xs
    cases e
    refine q N σ H ρ z.1 z.2 _ I e1 fun v H1 g1 r1 => ?_
    refine q1 N σ H1 z.2 y.1 y.2 _ g1.env e2 fun H2 g2 => ?_
    refine q2 N σ H2 y.2 w.1 w.2 _ g2.env e3 fun H3 g3 => ?_
    have g := (g1.trans g2).trans g3
    have rt := (g3.rr (g2.rr r1)).repT g.env e4
    obtain ⟨a, ob, vs, rfl, h1, h0, h2⟩ := rt.tup
    refine ⟨a, vs, rfl, .inl (.inr ⟨ob, h1⟩), fun hw => k _ H3 g ?_, fun hw p o hp ho => k _ _ (g.trans (GoE.grow g.env (same_new hp))) (new_tup g.env.domM hp ho (h2.cut _ _))⟩
    have e : cutD xs y.1 w.1 = xs := by
      unfold cutD
      rw [← h2.length, hw.1, hw.2, h2.length]
      simp
    show Rep G _ _ _ (.tup (cutD xs y.1 w.1))
    rw [e]
    rcases rt with rt | ⟨a', e', rt⟩
    · exact rt
    · cases rt
  · cases e

/-! ### displays -/
def vals : List R → Option (List D)
  | [] => some []
  | .val d :: rs => (vals rs).bind fun ds => some (d :: ds)
  | _ => none
theorem RRL.repL {N : Addr → Prop} {σ : L2.St} {ρ : Ev} {H : Hp} : ∀ {vs : List V} {rs : List R} {ds : List D}, RRL G N σ ρ H vs rs → vals rs = some ds → RepL G (MM N σ ρ) H vs ds
  | _, _, _, .nil, e => by cases e; exact .nil
  | _, _, _, .cons (r := .val d) (rs := rs) h t, e => by
    unfold vals at e
    obtain ⟨ds, e1, e⟩ := Option.bind_eq_some_iff.mp e
    cases e
    exact .cons h (RRL.repL t e1)
  | _, _, _, .cons (r := .own i) h t, e => by simp [vals] at e
noncomputable def xTup (g : FA) : FE := fun ρ => (g ρ).bind fun z => (vals z.1).bind fun ds => if Grd (ds.length ≤ sizeLine) then some (.val (.tup ds), z.2) else none
noncomputable def xLst (g : FA) : FN := fun ρ => (g ρ).bind fun z => (vals z.1).bind fun ds => if Grd (ds.length ≤ sizeLine) then some (.lst ds, z.2) else none
theorem DE.tup {g : FA} {x1} (h : DA G X es g) : DE G X (.Tuple es x1 pos) (xTup g) := by
  obtain ⟨t, p, q⟩ := h.ex
  refine ⟨_, pe_tupF p, fun N σ H ρ r ρ' Q I e k => ?_⟩
  obtain ⟨z, e1, e⟩ := Option.bind_eq_some_iff.mp e
  obtain ⟨ds, e2, e⟩ := Option.bind_eq_some_iff.mp e
  split at e
  · rename_i hz
    cases e
    refine q N σ H ρ z.1 z.2 _ I e1 fun vs H1 g r1 => ?_
    have rl := r1.repL e2
    exact ⟨by rw [rl.length]; exact hz, fun p o hp ho => k _ _ (g.trans (GoE.grow g.env (same_new hp))) (new_tup g.env.domM hp ho rl)⟩
  · cases e
theorem DN.lst {g : FA} (h : DA G X es g) : DN G X (.List es pos) (xLst g) := by
  obtain ⟨t, p, q⟩ := h.ex
  refine ⟨_, pe_lst p, fun N σ H ρ r ρ' Q I e k => ?_⟩
  obtain ⟨z, e1, e⟩ := Option.bind_eq_some_iff.mp e
  obtain ⟨ds, e2, e⟩ := Option.bind_eq_some_iff.mp e
  split at e
  · rename_i hz
    cases e
    refine q N σ H ρ z.1 z.2 _ I e1 fun vs H1 g r1 => ?_
    have rl := r1.repL e2
    refine ⟨by rw [rl.length]; exact hz, fun p hp => ?_⟩
    obtain ⟨gn, hp0⟩ := g.newN (same_new (o := .lst vs) hp) hp (by rw [upd_same]; exact (fun z => nomatch z))
    exact k p _ gn hp0 (new_lst hp rl)
  · cases e

/-! ### calls of what Python brings -/
def xCall (g : List D → Option D) (h : FA) : FE := fun ρ => (h ρ).bind fun z => (rdAll z.2 z.1).bind fun ds => (g ds).bind fun d => some (.val d, z.2)
def xCallN (g : List D → Option D) (h : FA) : FN := fun ρ => (h ρ).bind fun z => (rdAll z.2 z.1).bind fun ds => (g ds).bind fun d => some (d, z.2)
variable {g : List D → Option D} {h : FA} {x : Str} {p : Pos} {e : Expr}
theorem DE.callB {id : String} (hc : VCall G X (.builtin id) g) (hg : Gl X x) (hm : X.mg x = none) (hv : bootBuiltins x = some (.builtin id)) (ha : DA G X (e :: es) h) (hn : x ≠ "__name__") (hdb : (x == ("__debug__" : Str)) = false)
    (he : starEach (e :: es) X.env = (false, eval e X.env) :: starEach es X.env) (hpl : (backTo pos (starEach es X.env)).any (·.1) = false) : DE G X (.Call (.Name x p) (e :: es) [] pos) (xCall g h) := by
  obtain ⟨r, hr, k⟩ := hc.ex
  obtain ⟨t, pt, q⟩ := ha.ex
  refine ⟨_, pe_callB hr hg hm hv pt hn hdb he hpl, fun N σ H ρ rr ρ' Q I e kk => ?_⟩
  obtain ⟨z, e1, e⟩ := Option.bind_eq_some_iff.mp e
  obtain ⟨ds, e2, e⟩ := Option.bind_eq_some_iff.mp e
  obtain ⟨d, e3, e⟩ := Option.bind_eq_some_iff.mp e
  cases e
  refine q N σ H ρ z.1 z.2 _ I e1 fun vs H1 g r1 => ?_
  exact k _ H1 vs ds d Q g.env.domM (r1.repTL g.env e2) e3 fun v H' s rv => kk v H' (g.trans (GoE.grow g.env s)) rv
theorem DE.callTy {T : String} (hc : VCall G X (.type T) g) (hg : Gl X x) (hm : X.mg x = none) (hv : bootBuiltins x = some (.type T)) (ha : DA G X (e :: es) h) (hn : x ≠ "__name__") (hdb : (x == ("__debug__" : Str)) = false)
    (he : starEach (e :: es) X.env = (false, eval e X.env) :: starEach es X.env) (hpl : (backTo pos (starEach es X.env)).any (·.1) = false) : DE G X (.Call (.Name x p) (e :: es) [] pos) (xCall g h) := by
  obtain ⟨r, hr, k⟩ := hc.ex
  obtain ⟨t, pt, q⟩ := ha.ex
  refine ⟨_, pe_callTy hr hg hm hv pt hn hdb he hpl, fun N σ H ρ rr ρ' Q I e kk => ?_⟩
  obtain ⟨z, e1, e⟩ := Option.bind_eq_some_iff.mp e
  obtain ⟨ds, e2, e⟩ := Option.bind_eq_some_iff.mp e
  obtain ⟨d, e3, e⟩ := Option.bind_eq_some_iff.mp e
  cases e
  refine q N σ H ρ z.1 z.2 _ I e1 fun vs H1 g r1 => ?_
  exact k _ H1 vs ds d Q g.env.domM (r1.repTL g.env e2) e3 fun v H' s rv => kk v H' (g.trans (GoE.grow g.env s)) rv
theorem DN.callB {id : String} (hc : VCallN G X (.builtin id) g) (hg : Gl X x) (hm : X.mg x = none) (hv : bootBuiltins x = some (.builtin id)) (ha : DA G X (e :: es) h) (hn : x ≠ "__name__") (hdb : (x == ("__debug__" : Str)) = false)
    (he : starEach (e :: es) X.env = (false, eval e X.env) :: starEach es X.env) (hpl : (backTo pos (starEach es X.env)).any (·.1) = false) : DN G X (.Call (.Name x p) (e :: es) [] pos) (xCallN g h) := by
  obtain ⟨r, hr, k⟩ := hc.ex
  obtain ⟨t, pt, q⟩ := ha.ex
  refine ⟨_, pe_callB hr hg hm hv pt hn hdb he hpl, fun N σ H ρ rr ρ' Q I e kk => ?_⟩
  obtain ⟨z, e1, e⟩ := Option.bind_eq_some_iff.mp e
  obtain ⟨ds, e2, e⟩ := Option.bind_eq_some_iff.mp e
  obtain ⟨d, e3, e⟩ := Option.bind_eq_some_iff.mp e
  cases e
  refine q N σ H ρ z.1 z.2 _ I e1 fun vs H1 g r1 => ?_
  refine k _ H1 vs ds _ Q g.env.domM (r1.repTL g.env e2) e3 fun p H' s hp o => ?_
  obtain ⟨gn, hp0⟩ := g.newN s hp o.here
  exact kk p H' gn hp0 o
theorem DN.callTy {T : String} (hc : VCallN G X (.type T) g) (hg : Gl X x) (hm : X.mg x = none) (hv : bootBuiltins x = some (.type T)) (ha : DA G X (e :: es) h) (hn : x ≠ "__name__") (hdb : (x == ("__debug__" : Str)) = false)
    (he : starEach (e :: es) X.env = (false, eval e X.env) :: starEach es X.env) (hpl : (backTo pos (starEach es X.env)).any (·.1) = false) : DN G X (.Call (.Name x p) (e :: es) [] pos) (xCallN g h) := by
  obtain ⟨r, hr, k⟩ := hc.ex
  obtain ⟨t, pt, q⟩ := ha.ex
  refine ⟨_, pe_callTy hr hg hm hv pt hn hdb he hpl, fun N σ H ρ rr ρ' Q I e kk => ?_⟩
  obtain ⟨z, e1, e⟩ := Option.bind_eq_some_iff.mp e
  obtain ⟨ds, e2, e⟩ := Option.bind_eq_some_iff.mp e
  obtain ⟨d, e3, e⟩ := Option.bind_eq_some_iff.mp e
  cases e
  refine q N σ H ρ z.1 z.2 _ I e1 fun vs H1 g r1 => ?_
  refine k _ H1 vs ds _ Q g.env.domM (r1.repTL g.env e2) e3 fun p H' s hp o => ?_
  obtain ⟨gn, hp0⟩ := g.newN s hp o.here
  exact kk p H' gn hp0 o
end
end DL

set_option maxRecDepth 100000
namespace DL
open PySem PySem.Spec PyProof.Rows L2

inductive Out where
  | nx (ρ : Ev) | rt (d : D) (n : Bool) (ρ : Ev) | bk (ρ : Ev) | ct (ρ : Ev)

/-- a statement's way -/
structure Go (G : Gx) (N : Addr → Prop) (σ : L2.St) (ρ : Ev) (H : Hp) (σ' : L2.St) (ρ' : Ev) (H' : Hp) : Prop where
  env : EnvOk G N H' σ' ρ'
  fr : ∀ a o, H a = some o → ¬ OwnS σ ρ a → H' a = some o
  dom : ∀ a, H a ≠ none → H' a ≠ none
  own : ∀ a, OwnS σ' ρ' a → OwnS σ ρ a ∨ H a = none
  pin : ∀ (i : Nat) (d : D), ρ[i]? = some (Slot.ow true d) → (∃ d', ρ'[i]? = some (Slot.ow true d')) ∧ σ'[i]? = σ[i]?
section
variable {G : Gx} {N : Addr → Prop} {H H' H1 H2 : Hp} {σ σ' σ1 σ2 : L2.St} {ρ ρ' ρ1 ρ2 : Ev} {v : V} {d : D} {p : Addr}
theorem Go.refl (I : EnvOk G N H σ ρ) : Go G N σ ρ H σ ρ H := ⟨I, fun _ _ h _ => h, fun _ h => h, fun _ h => .inl h, fun i d h => ⟨⟨d, h⟩, rfl⟩⟩
theorem GoE.go (g : GoE G N σ ρ H ρ' H') : Go G N σ ρ H σ ρ' H' := ⟨g.env, g.fr, g.dom, fun a h => .inl (by rw [← g.shape.own σ]; exact h), fun i d h => ⟨g.shape.ow i true d h, rfl⟩⟩
theorem Go.trans (g : Go G N σ ρ H σ1 ρ1 H1) (k : Go G N σ1 ρ1 H1 σ2 ρ2 H2) : Go G N σ ρ H σ2 ρ2 H2 := by
  have hn : ∀ a, H1 a = none → H a = none := fun a h => back_none g.dom h
  refine ⟨k.env, fun a o e n => k.fr a o (g.fr a o e n) fun z => ?_, fun a h => k.dom a (g.dom a h), fun a h => ?_, fun i d h => ?_⟩
  · rcases g.own a z with z | z
    · exact n z
    · rw [e] at z; cases z
  · rcases k.own a h with z | z
    · exact g.own a z
    · exact .inr (hn a z)
  · obtain ⟨⟨d1, h1⟩, e1⟩ := g.pin i d h
    obtain ⟨h2, e2⟩ := k.pin i d1 h1
    exact ⟨h2, e2.trans e1⟩
theorem Go.mm (g : Go G N σ ρ H σ' ρ' H') : ∀ a, MM N σ' ρ' a → MM N σ ρ a ∨ H a = none := fun a h => by
  rcases h with h | h
  · exact .inl (.inl h)
  · rcases g.own a h with z | z
    · exact .inl (.inr z)
    · exact .inr z
theorem Go.rep (g : Go G N σ ρ H σ' ρ' H') (r : Rep G (MM N σ ρ) H v d) : Rep G (MM N σ' ρ') H' v d := r.mono g.mm fun a o e n => g.fr a o e fun z => n (.inr z)
theorem Go.repL {vs : List V} {ds : List D} (g : Go G N σ ρ H σ' ρ' H') (r : RepL G (MM N σ ρ) H vs ds) : RepL G (MM N σ' ρ') H' vs ds := r.mono g.mm fun a o e n => g.fr a o e fun z => n (.inr z)
theorem Go.less (g : Go G (addN N p) σ ρ H σ' ρ' H') : Go G N σ ρ H σ' ρ' H' := ⟨g.env.less, g.fr, g.dom, g.own, g.pin⟩

/-- what is handed back -/
def RetR (G : Gx) (N : Addr → Prop) (σ : L2.St) (ρ : Ev) (H : Hp) (σ' : L2.St) (ρ' : Ev) (H' : Hp) (v : V) (d : D) : Bool → Prop
  | false => Rep G (MM N σ' ρ') H' v d
  | true => ∃ p, v = .ref p ∧ EnvOk G (addN N p) H' σ' ρ' ∧ OwnN G (addN (MM N σ' ρ') p) H' p d ∧ (OwnS σ ρ p ∨ H p = none)
def PostS (G : Gx) (N : Addr → Prop) (σ : L2.St) (ρ : Ev) (H : Hp) (E : Ends) : Out → Prop
  | .nx ρ' => ∀ σ' H', Go G N σ ρ H σ' ρ' H' → E.nx σ' H'
  | .bk ρ' => ∀ σ' H', Go G N σ ρ H σ' ρ' H' → E.bk σ' H'
  | .ct ρ' => ∀ σ' H', Go G N σ ρ H σ' ρ' H' → E.ct σ' H'
  | .rt d n ρ' => ∀ σ' v H', Go G N σ ρ H σ' ρ' H' → RetR G N σ ρ H σ' ρ' H' v d n → E.rt v H'
theorem RetR.back {n : Bool} (g : Go G N σ ρ H σ1 ρ1 H1) (h : RetR G N σ1 ρ1 H1 σ2 ρ2 H2 v d n) : RetR G N σ ρ H σ2 ρ2 H2 v d n := by
  cases n with
  | false => exact h
  | true =>
    obtain ⟨p, e, h1, h2, h3⟩ := h
    refine ⟨p, e, h1, h2, ?_⟩
    rcases h3 with z | z
    · exact g.own p z
    · exact .inr (back_none g.dom z)
theorem PostS.on {E : Ends} {o : Out} (g : Go G N σ ρ H σ1 ρ1 H1) (h : PostS G N σ ρ H E o) : PostS G N σ1 ρ1 H1 E o := by
  cases o with
  | nx ρ' => exact fun σ' H' k => h σ' H' (g.trans k)
  | bk ρ' => exact fun σ' H' k => h σ' H' (g.trans k)
  | ct ρ' => exact fun σ' H' k => h σ' H' (g.trans k)
  | rt d n ρ' => exact fun σ' v H' k r => h σ' v H' (g.trans k) (r.back g)
end

abbrev FS := Ev → Option Out
structure DS (G : Gx) (X : Cx) (st : Stmt) (f : FS) : Prop where
  ex : ∃ t, PS X st t ∧ ∀ N σ H ρ o E, EnvOk G N H σ ρ → f ρ = some o → PostS G N σ ρ H E o → t E σ H
structure DSs (G : Gx) (X : Cx) (st : List Stmt) (f : FS) : Prop where
  ex : ∃ t, PSs X st t ∧ ∀ N σ H ρ o E, EnvOk G N H σ ρ → f ρ = some o → PostS G N σ ρ H E o → t E σ H
abbrev FG := D → Ev → Option Ev
/-- outside of W slots stay (own data may change) -/
structure Outside (W : List Nat) (σ : L2.St) (ρ : Ev) (σ' : L2.St) (ρ' : Ev) : Prop where
  slen : σ'.length = σ.length
  rlen : ρ'.length = ρ.length
  st : ∀ j, j ∉ W → σ'[j]? = σ[j]?
  ow : ∀ (j : Nat) (b : Bool) (d : D), j ∉ W → ρ[j]? = some (Slot.ow b d) → ∃ d', ρ'[j]? = some (Slot.ow b d')
  same : ∀ (j : Nat), j ∉ W → (∀ b d, ρ[j]? ≠ some (Slot.ow b d)) → ρ'[j]? = ρ[j]?
theorem Outside.refl (W : List Nat) (σ : L2.St) (ρ : Ev) : Outside W σ ρ σ ρ := ⟨rfl, rfl, fun _ _ => rfl, fun _ _ d _ h => ⟨d, h⟩, fun _ _ _ => rfl⟩
theorem Outside.trans {W : List Nat} {σ σ1 σ2 : L2.St} {ρ ρ1 ρ2 : Ev} (g : Outside W σ ρ σ1 ρ1) (k : Outside W σ1 ρ1 σ2 ρ2) : Outside W σ ρ σ2 ρ2 := by
  refine ⟨k.slen.trans g.slen, k.rlen.trans g.rlen, fun j h => (k.st j h).trans (g.st j h), fun j b d h e => ?_, fun j h e => ?_⟩
  · obtain ⟨d1, e1⟩ := g.ow j b d h e
    exact k.ow j b d1 h e1
  · have e1 := g.same j h e
    exact (k.same j h fun b d z => e b d (e1.symm.trans z)).trans e1
theorem Outside.mono {W W' : List Nat} {σ σ1 : L2.St} {ρ ρ1 : Ev} (g : Outside W σ ρ σ1 ρ1) (h : ∀ j ∈ W, j ∈ W') : Outside W' σ ρ σ1 ρ1 :=
  ⟨g.slen, g.rlen, fun j z => g.st j fun q => z (h j q), fun j b d z => g.ow j b d fun q => z (h j q), fun j z => g.same j fun q => z (h j q)⟩
theorem Shape.outside {W : List Nat} {σ : L2.St} {ρ ρ' : Ev} (s : Shape ρ ρ') : Outside W σ ρ σ ρ' := ⟨rfl, s.len.symm, fun _ _ => rfl, fun j b d _ e => s.ow j b d e, fun j _ e => s.same j e⟩
structure DG (G : Gx) (X : Cx) (W : List Nat) (tg : Expr) (g : FG) : Prop where
  ex : ∃ t, PG X tg t ∧ ∀ N σ H ρ v d ρ' Q, EnvOk G N H σ ρ → Rep G (MM N σ ρ) H v d → g d ρ = some ρ' → (∀ σ' H', Go G N σ ρ H σ' ρ' H' → Outside W σ ρ σ' ρ' → Q σ' H') → t v σ H Q

section
variable {G : Gx} {X : Cx} {e c : Expr} {st : Stmt} {sts : List Stmt} {f : FE} {s1 s2 : FS} {k : FT} {pos : Pos}
def sNil : FS := fun ρ => some (.nx ρ)
def sSeq (s1 s2 : FS) : FS := fun ρ => (s1 ρ).bind fun o => match o with | .nx ρ1 => s2 ρ1 | o => some o
theorem DSs.nil : DSs G X [] sNil := ⟨_, pss_nil, fun N σ H ρ o E I e q => by cases e; exact q σ H (.refl I)⟩
theorem DSs.one (h : DS G X st s1) : DSs G X [st] s1 := by
  obtain ⟨t, p, q⟩ := h.ex
  exact ⟨_, pss_one p, q⟩
theorem DSs.cons (h : DS G X st s1) (h2 : DSs G X sts s2) : DSs G X (st :: sts) (sSeq s1 s2) := by
  obtain ⟨t, p, q⟩ := h.ex
  obtain ⟨u, p2, q2⟩ := h2.ex
  refine ⟨_, pss_cons p p2, fun N σ H ρ o E I e w => ?_⟩
  obtain ⟨o1, e1, e⟩ := Option.bind_eq_some_iff.mp e
  refine q N σ H ρ o1 { E with nx := u E } I e1 ?_
  cases o1 with
  | nx ρ1 => exact fun σ' H' g => q2 N σ' H' ρ1 o E g.env e (w.on g)
  | bk ρ1 => cases e; exact w
  | ct ρ1 => cases e; exact w
  | rt d n ρ1 => cases e; exact w
theorem DS.pass : DS G X (.Pass pos) sNil := ⟨_, ps_pass, fun N σ H ρ o E I e q => by cases e; exact q σ H (.refl I)⟩
def sBreak : FS := fun ρ => some (.bk ρ)
def sCont : FS := fun ρ => some (.ct ρ)
theorem DS.brk : DS G X (.Break pos) sBreak := ⟨_, ps_break, fun N σ H ρ o E I e q => by cases e; exact q σ H (.refl I)⟩
theorem DS.cont : DS G X (.Continue pos) sCont := ⟨_, ps_continue, fun N σ H ρ o E I e q => by cases e; exact q σ H (.refl I)⟩
def sDrop (f : FE) : FS := fun ρ => (f ρ).bind fun z => some (.nx z.2)
theorem DS.expr (h : DE G X e f) (hs : swapsWith e none pos.line X.env = pure false) : DS G X (.Expr e pos) (sDrop f) := by
  obtain ⟨t, p, q⟩ := h.ex
  refine ⟨_, ps_expr p hs, fun N σ H ρ o E I e w => ?_⟩
  obtain ⟨z, e1, e⟩ := Option.bind_eq_some_iff.mp e
  cases e
  exact q N σ H ρ z.1 z.2 _ I e1 fun v H' g r => w σ H' g.go
/-- an own slot is let go: its object is forbidden -/
theorem OwnS.un {σ : L2.St} {ρ : Ev} {i : Nat} {a : Addr} {s : Slot} (hs : ∀ b d, s ≠ .ow b d) (h : OwnS σ (ρ.set i s) a) : OwnS σ ρ a := by
  obtain ⟨j, b, d, e1, e2⟩ := h
  by_cases hj : j = i
  · subst hj
    by_cases hl : j < ρ.length
    · rw [List.getElem?_set_self hl] at e1
      cases e1
      exact (hs b d rfl).elim
    · have := List.getElem?_eq_some_iff.mp e1
      obtain ⟨hl', _⟩ := this
      rw [List.length_set] at hl'
      exact absurd hl' hl
  · rw [List.getElem?_set_ne (Ne.symm hj)] at e1
    exact ⟨j, b, d, e1, e2⟩
theorem set_get {α : Type} {l : List α} {i j : Nat} {x y : α} (h : (l.set i x)[j]? = some y) : (j = i ∧ y = x ∧ i < l.length) ∨ (j ≠ i ∧ l[j]? = some y) := by
  by_cases hj : j = i
  · subst hj
    have hl : j < l.length := by
      have := (List.getElem?_eq_some_iff.mp h).1
      rwa [List.length_set] at this
    rw [List.getElem?_set_self hl] at h
    cases h
    exact .inl ⟨rfl, rfl, hl⟩
  · rw [List.getElem?_set_ne (Ne.symm hj)] at h
    exact .inr ⟨hj, h⟩
theorem EnvOk.forget {N : Addr → Prop} {H : Hp} {σ : L2.St} {ρ : Ev} (I : EnvOk G N H σ ρ) (i : Nat) : EnvOk G N H σ (ρ.set i .un) := by
  have hM : ∀ a, MM N σ (ρ.set i .un) a → MM N σ ρ a := fun a h => h.elim .inl fun z => .inr (z.un (fun _ _ z => by cases z))
  refine ⟨by rw [List.length_set]; exact I.len, I.dom, fun j d h => ?_, fun j b d h => ?_, fun j l b b' d d' a h1 h2 => ?_⟩
  · rcases set_get h with ⟨_, e, _⟩ | ⟨_, h⟩
    · cases e
    · obtain ⟨v, e, r⟩ := I.imm j d h
      exact ⟨v, e, r.mono (fun a z => .inl (hM a z)) fun _ _ e _ => e⟩
  · rcases set_get h with ⟨_, e, _⟩ | ⟨_, h⟩
    · cases e
    · obtain ⟨a, e, n, r⟩ := I.ow j b d h
      exact ⟨a, e, n, r.mono (fun a z => .inl (hM a z)) (fun _ _ e _ => e) rfl⟩
  · rcases set_get h1 with ⟨_, e, _⟩ | ⟨_, h1⟩
    · cases e
    · rcases set_get h2 with ⟨_, e, _⟩ | ⟨_, h2⟩
      · cases e
      · exact I.ne j l b b' d d' a h1 h2
theorem EnvOk.letGo {N : Addr → Prop} {H : Hp} {σ : L2.St} {ρ : Ev} (I : EnvOk G N H σ ρ) {i : Nat} {b : Bool} {d : D} {a : Addr} (h : ρ[i]? = some (.ow b d)) (ha : σ[i]? = some (some (V.ref a))) :
    EnvOk G (addN N a) H σ (ρ.set i .un) ∧ OwnN G (addN (MM N σ (ρ.set i .un)) a) H a d := by
  have J := I.forget i
  have hM : ∀ x, MM (addN N a) σ (ρ.set i .un) x → MM N σ ρ x := fun x z => by
    rcases z with (z | z) | z
    · exact .inl z
    · rw [z]; exact .inr ⟨i, b, d, h, ha⟩
    · exact .inr (z.un (fun _ _ z => by cases z))
  obtain ⟨a', e', n', o'⟩ := I.ow i b d h
  rw [ha] at e'
  cases e'
  refine ⟨⟨J.len, fun x z => z.elim (I.dom x) fun e => by rw [e]; exact o'.here, fun j d' h1 => ?_, fun j b' d' h1 => ?_, J.ne⟩, ?_⟩
  · rcases set_get h1 with ⟨_, e, _⟩ | ⟨_, h1⟩
    · cases e
    · obtain ⟨v, e, r⟩ := I.imm j d' h1
      exact ⟨v, e, r.mono (fun a z => .inl (hM a z)) fun _ _ e _ => e⟩
  · rcases set_get h1 with ⟨_, e, _⟩ | ⟨hj, h1⟩
    · cases e
    · obtain ⟨a2, e, n, r⟩ := I.ow j b' d' h1
      refine ⟨a2, e, fun z => z.elim n fun e2 => ?_, r.mono (fun a z => .inl (hM a z)) (fun _ _ e _ => e) rfl⟩
      subst e2
      exact hj (I.ne j i b' b d' d a2 h1 h e ha)
  · rw [← mm_add]
    exact o'.mono (fun a z => .inl (hM a z)) (fun _ _ e _ => e) rfl
/-- return -/
def sRet (f : FE) : FS := fun ρ => (f ρ).bind fun z => match z.1 with
  | .val d => some (.rt d false z.2)
  | .own i => match z.2[i]? with
    | some (.ow false d) => some (.rt d true (z.2.set i .un))
    | _ => none
theorem Go.forget {N : Addr → Prop} {H : Hp} {σ : L2.St} {ρ : Ev} (I : EnvOk G N H σ ρ) {i : Nat} (h : ∀ d, ρ[i]? ≠ some (.ow true d)) : Go G N σ ρ H σ (ρ.set i .un) H := by
  refine ⟨I.forget i, fun _ _ e _ => e, fun _ h => h, fun a z => .inl (z.un (fun _ _ z => by cases z)), fun j d e => ⟨⟨d, ?_⟩, rfl⟩⟩
  rw [List.getElem?_set_ne (fun z => h d (by rw [z]; exact e))]
  exact e
theorem DS.ret (h : DE G X e f) : DS G X (.Return (some e) pos) (sRet f) := by
  obtain ⟨t, p, q⟩ := h.ex
  refine ⟨_, ps_ret p, fun N σ H ρ o E I e w => ?_⟩
  obtain ⟨⟨r, ρ1⟩, e1, e⟩ := Option.bind_eq_some_iff.mp e
  refine q N σ H ρ r ρ1 _ I e1 fun v H' g rr => ?_
  cases r with
  | val d => cases e; exact w σ v H' g.go rr
  | own i =>
    dsimp only at e
    split at e
    · rename_i d hd
      cases e
      obtain ⟨e2, _⟩ := rr
      obtain ⟨a, e3, _, _⟩ := g.env.ow i false d hd
      rw [e2] at e3
      cases e3
      obtain ⟨h1, h2⟩ := g.env.letGo hd e2
      refine w σ _ H' (g.go.trans (Go.forget g.env (fun d' z => by rw [hd] at z; cases z))) ⟨a, rfl, h1, h2, .inl ?_⟩
      rw [← g.shape.own σ]
      exact ⟨i, false, d, hd, e2⟩
    · cases e
def sRetN (f : FN) : FS := fun ρ => (f ρ).bind fun z => some (.rt z.1 true z.2)
theorem DS.retN {f : FN} (h : DN G X e f) : DS G X (.Return (some e) pos) (sRetN f) := by
  obtain ⟨t, p, q⟩ := h.ex
  refine ⟨_, ps_ret p, fun N σ H ρ o E I e w => ?_⟩
  obtain ⟨⟨d, ρ1⟩, e1, e⟩ := Option.bind_eq_some_iff.mp e
  cases e
  exact q N σ H ρ d ρ1 _ I e1 fun p H' g hp o => w σ _ H' g.less.go ⟨p, rfl, g.env, o, .inr hp⟩
def sRet0 : FS := fun ρ => some (.rt .non false ρ)
theorem DS.ret0 : DS G X (.Return none pos) sRet0 := ⟨_, ps_retN, fun N σ H ρ o E I e w => by cases e; exact w σ _ H (.refl I) .non⟩
def sIf (k : FT) (s1 s2 : FS) : FS := fun ρ => (k ρ).bind fun z => match z.1 with | true => s1 z.2 | false => s2 z.2
theorem DS.ite {a b : List Stmt} (hc : DT G X c k) (ha : DSs G X a s1) (hb : DSs G X b s2) : DS G X (.If c a b pos) (sIf k s1 s2) := by
  obtain ⟨t0, p0, q0⟩ := hc.ex
  obtain ⟨t, p, q⟩ := ha.ex
  obtain ⟨t2, p2, q2⟩ := hb.ex
  refine ⟨_, ps_if p0 p p2, fun N σ H ρ o E I e w => ?_⟩
  obtain ⟨⟨b, ρ1⟩, e1, e⟩ := Option.bind_eq_some_iff.mp e
  refine q0 N σ H ρ b ρ1 _ I e1 fun H1 g => ?_
  cases b with
  | true => exact q N σ H1 ρ1 o E g.env e (w.on g.go)
  | false => exact q2 N σ H1 ρ1 o E g.env e (w.on g.go)

/-! ### while -/
/-- names of the turn that nobody asks behind it are forgotten -/
def wp1 (ρ : Ev) (i : Nat) : Ev := match ρ[i]? with
  | some (.ow true _) => ρ
  | _ => ρ.set i .un
def wps (l : List Nat) (ρ : Ev) : Ev := l.foldl wp1 ρ
theorem Go.wp1 {N : Addr → Prop} {H : Hp} {σ : L2.St} {ρ : Ev} (I : EnvOk G N H σ ρ) (i : Nat) : Go G N σ ρ H σ (wp1 ρ i) H := by
  unfold DL.wp1
  split
  · exact .refl I
  · rename_i h
    exact Go.forget I fun d z => h d z
theorem Go.wps {N : Addr → Prop} {H : Hp} {σ : L2.St} : ∀ {l : List Nat} {ρ : Ev}, EnvOk G N H σ ρ → Go G N σ ρ H σ (wps l ρ) H
  | [], _, I => .refl I
  | i :: l, ρ, I => (Go.wp1 I i).trans (Go.wps (l := l) (Go.wp1 I i).env)
def sWhile (tmp : List Nat) (k : FT) (s : FS) : Nat → FS
  | 0 => fun _ => none
  | n + 1 => fun ρ => (k ρ).bind fun z => match z.1 with
    | false => some (.nx z.2)
    | true => (s z.2).bind fun o => match o with
      | .nx ρ2 => sWhile tmp k s n (wps tmp ρ2)
      | .ct ρ2 => sWhile tmp k s n (wps tmp ρ2)
      | .bk ρ2 => some (.nx (wps tmp ρ2))
      | .rt d b ρ2 => some (.rt d b ρ2)
theorem DS.while {body : List Stmt} (tmp : List Nat) (n : Nat) (hp : PassesOwn (model X.prog X.w) X.A X.env X.xe) (hc : DT G X c k) (hb : DSs G X body s1) : DS G X (.While c body [] pos) (sWhile tmp k s1 n) := by
  obtain ⟨t0, p0, q0⟩ := hc.ex
  obtain ⟨t, p, q⟩ := hb.ex
  refine ⟨_, ps_while hp p0 p, fun N σ H ρ o E I e w => ?_⟩
  refine ⟨fun m σ1 H1 => ∃ ρ1, Go G N σ ρ H σ1 ρ1 H1 ∧ sWhile tmp k s1 m ρ1 = some o, ⟨n, ρ, .refl I, e⟩, ?_⟩
  rintro m σ1 H1 ⟨ρ1, g1, e1⟩
  cases m with
  | zero => cases e1
  | succ m =>
    obtain ⟨⟨b, ρ2⟩, e2, e1⟩ := Option.bind_eq_some_iff.mp e1
    refine q0 N σ1 H1 ρ1 b ρ2 _ g1.env e2 fun H2 g2 => ?_
    have g12 := g1.trans g2.go
    cases b with
    | false =>
      cases e1
      rw [if_neg (by decide)]
      exact w σ1 H2 g12
    | true =>
      rw [if_pos rfl]
      obtain ⟨o2, e3, e1⟩ := Option.bind_eq_some_iff.mp e1
      refine ⟨fun σ' H' => ∃ ρ', Go G N σ ρ H σ' ρ' H' ∧ sWhile tmp k s1 m ρ' = some o, fun σ' H' h => ⟨m, Nat.lt_succ_self m, h⟩, ?_⟩
      refine q N σ1 H2 ρ2 o2 _ g2.env e3 ?_
      cases o2 with
      | nx ρ3 => exact fun σ' H' g3 => ⟨_, (g12.trans g3).trans (Go.wps g3.env), e1⟩
      | ct ρ3 => exact fun σ' H' g3 => ⟨_, (g12.trans g3).trans (Go.wps g3.env), e1⟩
      | bk ρ3 => cases e1; exact fun σ' H' g3 => w σ' H' ((g12.trans g3).trans (Go.wps g3.env))
      | rt d b ρ3 => cases e1; exact fun σ' v H' g3 r => w σ' v H' (g12.trans g3) (r.back g12)
end
end DL

set_option maxRecDepth 100000
namespace DL
open PySem PySem.Spec PyProof.Rows L2
section
variable {G : Gx} {X : Cx} {e c : Expr} {es : List Expr} {f : FE} {pos : Pos}
/-- a slot that may be stored to -/
def freeAt (ρ : Ev) (i : Nat) : Bool := match ρ[i]? with
  | some (.ow true _) => false
  | some _ => true
  | none => false
theorem freeAt_lt {ρ : Ev} {i : Nat} (h : freeAt ρ i = true) : i < ρ.length ∧ ∀ d, ρ[i]? ≠ some (.ow true d) := by
  unfold freeAt at h
  split at h
  · cases h
  · rename_i s hn e
    refine ⟨(List.getElem?_eq_some_iff.mp e).1, fun d z => ?_⟩
    rw [e] at z
    exact hn d (Option.some.inj z)
  · cases h
theorem OwnS.setI {σ : L2.St} {ρ : Ev} {i : Nat} {a : Addr} {s : Slot} {x : Option V} (hs : ∀ b d, s ≠ .ow b d) (h : OwnS (σ.set i x) (ρ.set i s) a) : OwnS σ ρ a := by
  obtain ⟨j, b, d, e1, e2⟩ := h
  rcases set_get e1 with ⟨_, e, _⟩ | ⟨hj, e1⟩
  · exact (hs b d e.symm).elim
  · rw [List.getElem?_set_ne (Ne.symm hj)] at e2
    exact ⟨j, b, d, e1, e2⟩
theorem Go.setI {N : Addr → Prop} {H : Hp} {σ : L2.St} {ρ : Ev} {i : Nat} {v : V} {d : D} (I : EnvOk G N H σ ρ) (hf : freeAt ρ i = true) (r : Rep G (MM N σ ρ) H v d) : Go G N σ ρ H (σ.set i (some v)) (ρ.set i (.imm d)) H := by
  obtain ⟨hl, hp⟩ := freeAt_lt hf
  have hlσ : i < σ.length := by rw [I.len]; exact hl
  have hM : ∀ a, MM N (σ.set i (some v)) (ρ.set i (.imm d)) a → MM N σ ρ a := fun a h => h.elim .inl fun z => .inr (z.setI (fun _ _ z => by cases z))
  refine ⟨⟨by rw [List.length_set, List.length_set]; exact I.len, I.dom, fun j d' h => ?_, fun j b d' h => ?_, fun j l b b' d1 d2 a h1 h2 h3 h4 => ?_⟩, fun _ _ e _ => e, fun _ h => h, fun a z => .inl (z.setI (fun _ _ z => by cases z)), fun j d' h => ?_⟩
  · rcases set_get h with ⟨rfl, e, _⟩ | ⟨hj, h⟩
    · cases e
      exact ⟨v, List.getElem?_set_self hlσ, r.mono (fun a z => .inl (hM a z)) fun _ _ e _ => e⟩
    · obtain ⟨v', e, r'⟩ := I.imm j d' h
      exact ⟨v', by rw [List.getElem?_set_ne (Ne.symm hj)]; exact e, r'.mono (fun a z => .inl (hM a z)) fun _ _ e _ => e⟩
  · rcases set_get h with ⟨rfl, e, _⟩ | ⟨hj, h⟩
    · cases e
    · obtain ⟨a, e, n, o⟩ := I.ow j b d' h
      exact ⟨a, by rw [List.getElem?_set_ne (Ne.symm hj)]; exact e, n, o.mono (fun a z => .inl (hM a z)) (fun _ _ e _ => e) rfl⟩
  · rcases set_get h1 with ⟨_, e, _⟩ | ⟨hj, h1⟩
    · cases e
    · rcases set_get h2 with ⟨_, e, _⟩ | ⟨hl2, h2⟩
      · cases e
      · rw [List.getElem?_set_ne (Ne.symm hj)] at h3
        rw [List.getElem?_set_ne (Ne.symm hl2)] at h4
        exact I.ne j l b b' d1 d2 a h1 h2 h3 h4
  · have hj : i ≠ j := fun z => hp d' (by rw [z]; exact h)
    exact ⟨⟨d', by rw [List.getElem?_set_ne hj]; exact h⟩, List.getElem?_set_ne hj⟩
/-- name -/
def gSet (i : Nat) : FG := fun d ρ => if freeAt ρ i then some (ρ.set i (.imm d)) else none
theorem DG.name (i : Nat) {x : Str} (hN : X.N.Nodup) (hi : X.N[i]? = some x) (hx : Loc X.env.scope x) (hf : X.fn x = true ∨ X.env.scope.names.lookup x = some .local) : DG G X [i] (.Name x pos) (gSet i) := by
  refine ⟨_, pg_name hN hi hx hf, fun N σ H ρ v d ρ' Q I r e q => ?_⟩
  unfold gSet at e
  split at e
  · rename_i h
    cases e
    refine q _ H (Go.setI I h r) ⟨by rw [List.length_set], by rw [List.length_set], fun j z => ?_, fun j b d' z e => ⟨d', ?_⟩, fun j z e => ?_⟩
    · exact List.getElem?_set_ne (fun q => z (by rw [q]; exact List.mem_singleton.mpr rfl))
    · rw [List.getElem?_set_ne (fun q => z (by rw [q]; exact List.mem_singleton.mpr rfl))]
      exact e
    · exact List.getElem?_set_ne (fun q => z (by rw [q]; exact List.mem_singleton.mpr rfl))
  · cases e
/-- name = a new thing, owned -/
theorem Go.setN {N : Addr → Prop} {H H' : Hp} {σ : L2.St} {ρ ρ1 : Ev} {i : Nat} {p : Addr} {d : D} (I : EnvOk G N H σ ρ) (g : GoE G (addN N p) σ ρ H ρ1 H') (hp : H p = none) (o : OwnN G (addN (MM N σ ρ1) p) H' p d) (hf : freeAt ρ1 i = true) :
    Go G N σ ρ H (σ.set i (some (.ref p))) (ρ1.set i (.ow false d)) H' := by
  obtain ⟨hl, hpn⟩ := freeAt_lt hf
  have J := g.env
  have hlσ : i < σ.length := by rw [J.len]; exact hl
  have hO : ∀ a, OwnS (σ.set i (some (.ref p))) (ρ1.set i (.ow false d)) a → OwnS σ ρ1 a ∨ a = p := fun a ⟨j, b, d', e1, e2⟩ => by
    rcases set_get e1 with ⟨rfl, e, _⟩ | ⟨hj, e1⟩
    · rw [List.getElem?_set_self hlσ] at e2
      cases e2
      exact .inr rfl
    · rw [List.getElem?_set_ne (Ne.symm hj)] at e2
      exact .inl ⟨j, b, d', e1, e2⟩
  have hM : ∀ a, MM N (σ.set i (some (.ref p))) (ρ1.set i (.ow false d)) a → MM (addN N p) σ ρ1 a := fun a h => by
    rcases h with h | h
    · exact .inl (.inl h)
    · rcases hO a h with z | z
      · exact .inr z
      · exact .inl (.inr z)
  have hNp : ¬ N p := fun z => I.dom p z hp
  refine ⟨⟨by rw [List.length_set, List.length_set]; exact J.len, fun a h => J.dom a (.inl h), fun j d' h => ?_, fun j b d' h => ?_, fun j l b b' d1 d2 a h1 h2 h3 h4 => ?_⟩, g.fr, g.dom, fun a z => ?_, fun j d' h => ?_⟩
  · rcases set_get h with ⟨_, e, _⟩ | ⟨hj, h⟩
    · cases e
    · obtain ⟨v', e, r'⟩ := J.imm j d' h
      exact ⟨v', by rw [List.getElem?_set_ne (Ne.symm hj)]; exact e, r'.mono (fun a z => .inl (hM a z)) fun _ _ e _ => e⟩
  · rcases set_get h with ⟨rfl, e, _⟩ | ⟨hj, h⟩
    · cases e
      refine ⟨p, List.getElem?_set_self hlσ, hNp, o.mono (fun a z => .inl ?_) (fun _ _ e _ => e) rfl⟩
      have := hM a z
      rwa [mm_add] at this
    · obtain ⟨a, e, n, o⟩ := J.ow j b d' h
      exact ⟨a, by rw [List.getElem?_set_ne (Ne.symm hj)]; exact e, fun z => n (.inl z), o.mono (fun a z => .inl (hM a z)) (fun _ _ e _ => e) rfl⟩
  · rcases set_get h1 with ⟨ej, e, _⟩ | ⟨hj, k1⟩
    · rw [ej, List.getElem?_set_self hlσ] at h3
      cases h3
      rcases set_get h2 with ⟨el, e, _⟩ | ⟨hl2, k2⟩
      · rw [ej, el]
      · rw [List.getElem?_set_ne (Ne.symm hl2)] at h4
        obtain ⟨a, e, n, o⟩ := J.ow l b' d2 k2
        rw [h4] at e
        cases e
        exact (n (.inr rfl)).elim
    · rw [List.getElem?_set_ne (Ne.symm hj)] at h3
      rcases set_get h2 with ⟨el, e, _⟩ | ⟨hl2, k2⟩
      · rw [el, List.getElem?_set_self hlσ] at h4
        cases h4
        obtain ⟨a, e, n, o⟩ := J.ow j b d1 k1
        rw [h3] at e
        cases e
        exact (n (.inr rfl)).elim
      · rw [List.getElem?_set_ne (Ne.symm hl2)] at h4
        exact J.ne j l b b' d1 d2 a k1 k2 h3 h4
  · rcases hO a z with z | z
    · exact .inl (by rw [← g.shape.own σ]; exact z)
    · exact .inr (by rw [z]; exact hp)
  · obtain ⟨d1, h1⟩ := g.shape.ow j true d' h
    have hj : i ≠ j := fun z => hpn d1 (by rw [z]; exact h1)
    exact ⟨⟨d1, by rw [List.getElem?_set_ne hj]; exact h1⟩, List.getElem?_set_ne hj⟩

/-! ### assignments -/
/-- a statement that stores what an expression hands on at the i-th slot -/
structure DAs (G : Gx) (X : Cx) (st : Stmt) (i : Nat) (f : FE) : Prop where
  ex : ∃ t, PS X st (tAsg t (gName i)) ∧ ∀ N σ H ρ r ρ' Q, EnvOk G N H σ ρ → f ρ = some (r, ρ') → (∀ v H', GoE G N σ ρ H ρ' H' → RR G N σ ρ' H' v r → Q v H') → t σ H Q
structure DAsN (G : Gx) (X : Cx) (st : Stmt) (i : Nat) (f : FN) : Prop where
  ex : ∃ t, PS X st (tAsg t (gName i)) ∧ ∀ N σ H ρ d ρ' Q, EnvOk G N H σ ρ → f ρ = some (d, ρ') → (∀ p H', GoE G (addN N p) σ ρ H ρ' H' → H p = none → OwnN G (addN (MM N σ ρ') p) H' p d → Q (.ref p) H') → t σ H Q
variable {i : Nat} {x : Str} {pos' : Pos}
theorem DE.as (h : DE G X e f) (hN : X.N.Nodup) (hi : X.N[i]? = some x) (hx : Loc X.env.scope x) (hs : swapsWith e (some (.Name x pos')) pos.line X.env = pure false) (hf : X.fn x = true ∨ X.env.scope.names.lookup x = some .local) :
    DAs G X (.Assign [.Name x pos'] e pos) i f := by
  obtain ⟨t, p, q⟩ := h.ex
  exact ⟨t, ps_set hN hi hx p hs hf, q⟩
theorem DN.as {f : FN} (h : DN G X e f) (hN : X.N.Nodup) (hi : X.N[i]? = some x) (hx : Loc X.env.scope x) (hs : swapsWith e (some (.Name x pos')) pos.line X.env = pure false) (hf : X.fn x = true ∨ X.env.scope.names.lookup x = some .local) :
    DAsN G X (.Assign [.Name x pos'] e pos) i f := by
  obtain ⟨t, p, q⟩ := h.ex
  exact ⟨t, ps_set hN hi hx p hs hf, q⟩
theorem not_mm {N : Addr → Prop} {H H' : Hp} {σ : L2.St} {ρ ρ1 : Ev} {p : Addr} (I : EnvOk G N H σ ρ) (g : GoE G (addN N p) σ ρ H ρ1 H') (hp : H p = none) : ¬ MM N σ ρ1 p := by
  intro h
  rcases h with h | ⟨i, b, d, h1, h2⟩
  · exact I.dom p h hp
  · obtain ⟨a, e2, n2, _⟩ := g.env.ow i b d h1
    rw [h2] at e2
    cases e2
    exact n2 (.inr rfl)
theorem DAsN.as {st : Stmt} {f : FN} (h : DAsN G X st i f) : DAs G X st i (xNew f) := by
  obtain ⟨t, ht, hq⟩ := h.ex
  refine ⟨t, ht, fun N σ H ρ r ρ' Q I e q => ?_⟩
  obtain ⟨z1, z, e⟩ := Option.bind_eq_some_iff.mp e
  cases e
  refine hq N σ H ρ z1.1 z1.2 Q I z fun p H' g hp o => q _ H' g.less ?_
  exact (o.mono (M' := MM N σ z1.2) (fun a z => .inl (.inl z)) (fun _ _ e _ => e) rfl).rep (not_mm I g hp)
/-- name = e: a value (an own thing loses its owner) -/
def sSet (i : Nat) (f : FE) : FS := fun ρ => (f ρ).bind fun z => match z.1 with
  | .val d => if freeAt z.2 i then some (.nx (z.2.set i (.imm d))) else none
  | .own _ => none
theorem DAs.set {st : Stmt} (h : DAs G X st i f) : DS G X st (sSet i f) := by
  obtain ⟨t, p, q⟩ := h.ex
  refine ⟨_, p, fun N σ H ρ o E I e w => ?_⟩
  obtain ⟨⟨r, ρ1⟩, e1, e⟩ := Option.bind_eq_some_iff.mp e
  refine q N σ H ρ r ρ1 _ I e1 fun v H' g rr => ?_
  cases r with
  | own j => cases e
  | val d =>
    dsimp only at e
    split at e
    · rename_i hf
      cases e
      exact w _ H' (g.go.trans (Go.setI g.env hf rr))
    · cases e
def sSetN (i : Nat) (f : FN) : FS := fun ρ => (f ρ).bind fun z => if freeAt z.2 i then some (.nx (z.2.set i (.ow false z.1))) else none
theorem DAsN.set {st : Stmt} {f : FN} (h : DAsN G X st i f) : DS G X st (sSetN i f) := by
  obtain ⟨t, p, q⟩ := h.ex
  refine ⟨_, p, fun N σ H ρ o E I e w => ?_⟩
  obtain ⟨⟨d, ρ1⟩, e1, e⟩ := Option.bind_eq_some_iff.mp e
  split at e
  · rename_i hf
    cases e
    exact q N σ H ρ d ρ1 _ I e1 fun p H' g hp o => w _ H' (Go.setN I g hp o hf)
  · cases e
/-- target = e -/
def sAsg (f : FE) (g : FG) : FS := fun ρ => (f ρ).bind fun z => match z.1 with
  | .val d => (g d z.2).bind fun ρ' => some (.nx ρ')
  | .own _ => none
theorem DS.asg {tg : Expr} {g : FG} {W : List Nat} (h : DE G X e f) (hg : DG G X W tg g) (hs : swapsWithSole [tg] e pos.line X.env = pure false) (hw : swappedStores [tg] e X.env = pure none) (h1 : (assignEach [tg] X.env).map (·.2) = [assign tg X.env]) :
    DS G X (.Assign [tg] e pos) (sAsg f g) := by
  obtain ⟨t, p, q⟩ := h.ex
  obtain ⟨u, p2, q2⟩ := hg.ex
  refine ⟨_, ps_asg p p2 hs hw h1, fun N σ H ρ o E I e w => ?_⟩
  obtain ⟨⟨r, ρ1⟩, e1, e⟩ := Option.bind_eq_some_iff.mp e
  refine q N σ H ρ r ρ1 _ I e1 fun v H' g rr => ?_
  cases r with
  | own j => cases e
  | val d =>
    obtain ⟨ρ2, e2, e⟩ := Option.bind_eq_some_iff.mp e
    cases e
    exact q2 N σ H' ρ1 v d ρ2 _ g.env rr e2 fun σ' H2 g2 _ => w σ' H2 (g.go.trans g2)

/-! ### several targets -/
abbrev FGs := List D → Ev → Option Ev
structure DGs (G : Gx) (X : Cx) (W : List Nat) (ts : List Expr) (g : FGs) : Prop where
  ex : ∃ t, PGs X ts t ∧ ∀ N σ H ρ vs ds ρ' Q, EnvOk G N H σ ρ → RepL G (MM N σ ρ) H vs ds → g ds ρ = some ρ' → (∀ σ' H', Go G N σ ρ H σ' ρ' H' → Outside W σ ρ σ' ρ' → Q σ' H') → t vs σ H Q
def gsNil : FGs := fun ds ρ => match ds with
  | [] => some ρ
  | _ => none
def gsCons (g : FG) (k : FGs) : FGs := fun ds ρ => match ds with
  | d :: r => (g d ρ).bind fun ρ1 => k r ρ1
  | [] => none
theorem DGs.nil {W : List Nat} : DGs G X W [] gsNil := by
  refine ⟨_, pgs_nil, fun N σ H ρ vs ds ρ' Q I r e q => ?_⟩
  unfold gsNil at e
  split at e
  · cases e; cases r; exact ⟨rfl, q σ H (.refl I) (.refl _ _ _)⟩
  · cases e
theorem DGs.cons {g : FG} {k : FGs} {W W1 : List Nat} (h : DG G X W1 e g) (h2 : DGs G X W es k) (hW : ∀ j ∈ W1, j ∈ W) (hs : (assignEach (e :: es) X.env).map (·.2) = assign e X.env :: (assignEach es X.env).map (·.2)) : DGs G X W (e :: es) (gsCons g k) := by
  obtain ⟨t, p, q⟩ := h.ex
  obtain ⟨u, p2, q2⟩ := h2.ex
  refine ⟨_, pgs_cons p p2 hs, fun N σ H ρ vs ds ρ' Q I r e kk => ?_⟩
  unfold gsCons at e
  split at e
  · obtain ⟨ρ1, e1, e⟩ := Option.bind_eq_some_iff.mp e
    cases r with
    | cons r1 r2 =>
      refine ⟨_, _, rfl, q N σ H ρ _ _ ρ1 _ I r1 e1 fun σ' H' g o1 => ?_⟩
      exact q2 N σ' H' ρ1 _ _ ρ' _ g.env (g.repL r2) e fun σ2 H2 g2 o2 => kk σ2 H2 (g.trans g2) ((o1.mono hW).trans o2)
  · cases e
def gTupD (n : Nat) (k : FGs) : FG := fun d ρ => match d with
  | .tup ds => if ds.length = n then k ds ρ else none
  | _ => none
def gLstD (n : Nat) (k : FGs) : FG := fun d ρ => match d with
  | .lst ds => if ds.length = n then k ds ρ else none
  | _ => none
theorem DG.tup {k : FGs} {W : List Nat} {kk n : Nat} (hc : X.calm = true) (h : DGs G X W es k) (hn : (assignEach es X.env).length = n) (hst : (assignEach es X.env).findIdx? (·.1) = none) : DG G X W (.Tuple es kk pos) (gTupD n k) := by
  obtain ⟨t, p, q⟩ := h.ex
  refine ⟨_, pg_tup hc p hn hst, fun N σ H ρ v d ρ' Q I r e w => ?_⟩
  unfold gTupD at e
  split at e
  · split at e
    · rename_i ds hl
      cases r with
      | tup h1 h2 h0 h3 => exact ⟨_, _, rfl, .inl (.inr ⟨_, h2⟩), h3.length.trans hl, q N σ H ρ _ _ ρ' _ I h3 e w⟩
    · cases e
  · cases e
theorem DG.lst {k : FGs} {W : List Nat} {kk n : Nat} (hc : X.calm = true) (h : DGs G X W es k) (hn : (assignEach es X.env).length = n) (hst : (assignEach es X.env).findIdx? (·.1) = none) : DG G X W (.Tuple es kk pos) (gLstD n k) := by
  obtain ⟨t, p, q⟩ := h.ex
  refine ⟨_, pg_unl hc p hn hst, fun N σ H ρ v d ρ' Q I r e w => ?_⟩
  unfold gLstD at e
  split at e
  · split at e
    · rename_i ds hl
      cases r with
      | lst h1 h2 h3 => exact ⟨_, _, rfl, .of h2, h3.length.trans hl, q N σ H ρ _ _ ρ' _ I h3 e w⟩
    · cases e
  · cases e

/-! ### own things changed -/
theorem GoE.updS {N : Addr → Prop} {H : Hp} {σ : L2.St} {ρ : Ev} {i : Nat} {b : Bool} {d d' : D} {a : Addr} {o : HO} (I : EnvOk G N H σ ρ) (h : ρ[i]? = some (.ow b d)) (ha : σ[i]? = some (some (V.ref a))) (n : OwnN G (MM N σ ρ) (upd H a o) a d') :
    GoE G N σ ρ H (ρ.set i (.ow b d')) (upd H a o) := by
  have hl : i < ρ.length := (List.getElem?_eq_some_iff.mp h).1
  have sh : Shape ρ (ρ.set i (.ow b d')) := by
    refine ⟨by rw [List.length_set], fun j b2 d2 e => ?_, fun j hn => ?_⟩
    · by_cases hj : i = j
      · subst hj
        rw [h] at e
        cases e
        exact ⟨d', List.getElem?_set_self hl⟩
      · exact ⟨d2, by rw [List.getElem?_set_ne hj]; exact e⟩
    · by_cases hj : i = j
      · subst hj
        exact (hn b d h).elim
      · exact List.getElem?_set_ne hj
  have own : OwnS σ ρ a := ⟨i, b, d, h, ha⟩
  have mm := sh.mm N σ
  have frm : ∀ c u, H c = some u → ¬ OwnS σ ρ c → upd H a o c = some u := fun c u e z => by rw [upd_ne (fun q => z (by rw [q]; exact own))]; exact e
  have hh : ∀ c u, H c = some u → ¬ MM N σ ρ c → upd H a o c = some u := fun c u e z => frm c u e fun q => z (.inr q)
  have dm : ∀ c, H c ≠ none → upd H a o c ≠ none := fun c z => by
    by_cases hc : c = a
    · rw [hc, upd_same]; exact (fun z => nomatch z)
    · rw [upd_ne hc]; exact z
  refine ⟨⟨sh.len ▸ I.len, fun c z => dm c (I.dom c z), fun j d2 e => ?_, fun j b2 d2 e => ?_, fun j l b1 b2 d1 d2 c h1 h2 h3 h4 => ?_⟩, frm, dm, sh⟩
  · rw [mm]
    obtain ⟨v, e1, r⟩ := I.imm j d2 (sh.imm e)
    exact ⟨v, e1, r.mono (fun c z => .inl z) hh⟩
  · rw [mm]
    rcases set_get e with ⟨rfl, e2, _⟩ | ⟨hj, e⟩
    · cases e2
      obtain ⟨a2, e3, n2, _⟩ := I.ow j b d h
      rw [ha] at e3
      cases e3
      exact ⟨a, ha, n2, n⟩
    · obtain ⟨a2, e3, n2, o2⟩ := I.ow j b2 d2 e
      have hne : a2 ≠ a := fun z => hj (I.ne j i b2 b d2 d a (e) h (by rw [← z]; exact e3) ha)
      exact ⟨a2, e3, n2, o2.mono (fun c z => .inl z) hh (upd_ne hne)⟩
  · obtain ⟨d3, q1⟩ := sh.ow' h1
    obtain ⟨d4, q2⟩ := sh.ow' h2
    exact I.ne j l b1 b2 d3 d4 c q1 q2 h3 h4
theorem RepL.updO {N : Addr → Prop} {H : Hp} {σ : L2.St} {ρ : Ev} {a : Addr} {o : HO} {vs : List V} {ds : List D} (own : OwnS σ ρ a) (r : RepL G (MM N σ ρ) H vs ds) : RepL G (MM N σ ρ) (upd H a o) vs ds :=
  r.mono (fun c z => .inl z) fun c u e z => by rw [upd_ne (fun q => z (by rw [q]; exact .inr own))]; exact e
theorem Rep.updO {N : Addr → Prop} {H : Hp} {σ : L2.St} {ρ : Ev} {a : Addr} {o : HO} {v : V} {d : D} (own : OwnS σ ρ a) (r : Rep G (MM N σ ρ) H v d) : Rep G (MM N σ ρ) (upd H a o) v d :=
  r.mono (fun c z => .inl z) fun c u e z => by rw [upd_ne (fun q => z (by rw [q]; exact .inr own))]; exact e
/-- name[e] = .. of an own list -/
def isOw (ρ : Ev) (i : Nat) : Bool := match ρ[i]? with
  | some (.ow _ _) => true
  | _ => false
theorem isOw_ex {ρ : Ev} {i : Nat} (h : isOw ρ i = true) : ∃ b d, ρ[i]? = some (Slot.ow b d) := by
  unfold isOw at h
  split at h
  · exact ⟨_, _, by assumption⟩
  · cases h
def gSubL (i : Nat) (f : FE) : FG := fun d ρ => if isOw ρ i then (f ρ).bind fun z => (z.1.rd z.2).bind fun k => match k, z.2[i]? with
  | .int k, some (.ow b (.lst ds)) => (ixN ds.length k).bind fun j => some (z.2.set i (.ow b (.lst (ds.set j d))))
  | _, _ => none
  else none
theorem DG.sub (i : Nat) {x : Str} {pos2 : Pos} {ix : Expr} (hN : X.N[i]? = some x) (hv : Vis X.env.scope x) (hd : (x == ("__debug__" : Str)) = false) (hcd : (x == ("__classdict__" : Str)) = false) (h : DE G X ix f)
    (ha : ∀ v, assign (.Subscript (.Name x pos2) ix pos) X.env v = (do
      let ov ← holding [v] (eval (.Name x pos2) X.env)
      let iv ← holding [v, ov] (eval ix X.env)
      standAt pos
      holding [v, ov, iv] (setItem ov iv v)
      release [v, ov, iv] [])) : DG G X [] (.Subscript (.Name x pos2) ix pos) (gSubL i f) := by
  obtain ⟨t, p, q⟩ := h.ex
  refine ⟨_, pg_sub (pe_var hN hv hd hcd) p set_list ha, fun N σ H ρ v d ρ' Q I r e w => ?_⟩
  unfold gSubL at e
  split at e
  · rename_i hw
    obtain ⟨b0, d0, h0⟩ := isOw_ex hw
    obtain ⟨a, ea, _, _⟩ := I.ow i b0 d0 h0
    obtain ⟨z, e1, e⟩ := Option.bind_eq_some_iff.mp e
    obtain ⟨k, e2, e⟩ := Option.bind_eq_some_iff.mp e
    split at e
    · rename_i k b ds hsl
      obtain ⟨j, e3, e⟩ := Option.bind_eq_some_iff.mp e
      cases e
      refine ⟨_, ea, q N σ H ρ z.1 z.2 _ I e1 fun y H1 g r1 => ?_⟩
      obtain ⟨a2, e4, _, o⟩ := g.env.ow i b (.lst ds) hsl
      rw [ea] at e4
      cases e4
      cases o with
      | lst h1 h2 =>
        have own : OwnS σ z.2 a := ⟨i, b, .lst ds, hsl, ea⟩
        have gu := GoE.updS (d' := .lst (ds.set j d)) (o := .lst (List.set _ j v)) g.env hsl ea (.lst upd_same ((h2.updO own).set ((g.rep r).updO own) j))
        exact ⟨a, _, k, j, rfl, (r1.repT g.env e2).int, h1, by rw [h2.length]; exact e3, w σ _ (g.go.trans gu.go) (g.shape.trans gu.shape).outside⟩
    · cases e
  · cases e
/-- name op= e -/
def sAug (i : Nat) (g : D → D → Option D) (f : FE) : FS := fun ρ => match ρ[i]? with
  | some (.imm d) => (f ρ).bind fun z => (z.1.rd z.2).bind fun d2 => (g d d2).bind fun d3 => if freeAt z.2 i then some (.nx (z.2.set i (.imm d3))) else none
  | _ => none
theorem DS.aug {op : Operator} {g : D → D → Option D} (hv : VOp G X (inplaceOp op) g) (hN : X.N.Nodup) (hi : X.N[i]? = some x) (hx : Loc X.env.scope x) (h : DE G X e f) (hf : X.fn x = true ∨ X.env.scope.names.lookup x = some .local) :
    DS G X (.AugAssign (.Name x pos') op e pos) (sAug i g f) := by
  obtain ⟨r, hr, k⟩ := hv.ex
  obtain ⟨t, p, q⟩ := h.ex
  refine ⟨_, ps_aug hN hi hx p (show PIp X op r from hr) hf, fun N σ H ρ o E I e w => ?_⟩
  unfold sAug at e
  split at e
  · rename_i d hd
    obtain ⟨z, e1, e⟩ := Option.bind_eq_some_iff.mp e
    obtain ⟨d2, e2, e⟩ := Option.bind_eq_some_iff.mp e
    obtain ⟨d3, e3, e⟩ := Option.bind_eq_some_iff.mp e
    split at e
    · rename_i hfr
      cases e
      obtain ⟨v, ev, rv⟩ := I.imm i d hd
      refine ⟨v, ev, q N σ H ρ z.1 z.2 _ I e1 fun y H1 g1 r1 => ?_⟩
      refine k _ H1 v y d d2 d3 _ g1.env.domM (.inl (g1.rep rv)) (r1.repT g1.env e2) e3 fun v3 H2 s r3 => ?_
      have g2 := g1.trans (GoE.grow g1.env s)
      exact w _ H2 (g2.go.trans (Go.setI g2.env hfr r3))
    · cases e
  · cases e
/-- name[e] op= e, the name's list its own -/
def sAugL (i : Nat) (f : FE) (g : D → D → Option D) (f2 : FE) : FS := fun ρ => if isOw ρ i then (f ρ).bind fun z => (z.1.rd z.2).bind fun k => match k, z.2[i]? with
  | .int k, some (.ow _ (.lst ds)) => (atI ds k).bind fun d => (f2 z.2).bind fun y => (y.1.rd y.2).bind fun d2 => (g d d2).bind fun d3 => match y.2[i]? with
    | some (.ow b (.lst es)) => (ixN es.length k).bind fun j => some (.nx (y.2.set i (.ow b (.lst (es.set j d3)))))
    | _ => none
  | _, _ => none
  else none
theorem pget_list : PGet X (rIxL X.K) := by
  intro pins s σ H o i ov iv Q I r1 r2 h
  obtain ⟨p, xs, k, v, rfl, rfl, hs, hk, q⟩ := h
  cases r1
  obtain ⟨t, rfl⟩ := r2
  obtain ⟨its, rv, pl, hz⟩ := I.list hs
  obtain ⟨j, h1, h2, h3, h4, h5⟩ := atI_get hk
  obtain ⟨u, hu, ru⟩ := rv.get h2
  have hlen := rv.length
  have hsz := line63
  have fin : EP X pins σ Q u s := ⟨v, H, I, ru, q⟩
  by_cases h0 : 0 ≤ k
  · have hj : k.toNat = j := by
      rw [seqIndex_of h0 h5] at h1
      exact Option.some.inj h1
    exact wpAny_getItem_list pl.isList h0 (by omega) (by rw [hj]; simpa using hu) fin
  · have hj : (k + (its.toArray.size : Int)).toNat = j := by
      rw [seqIndex_neg (by omega) h4] at h1
      rw [List.size_toArray, ← hlen]
      exact Option.some.inj h1
    exact wpAny_getItem_list_neg pl.isList (by omega) (by rw [List.size_toArray] <;> omega) (by omega) (by rw [hj]; simpa using hu) fin
theorem DS.augL (i : Nat) {pos2 tpos : Pos} {ix : Expr} {op : Operator} {g : D → D → Option D} {f2 : FE} (hv : VOp G X (inplaceOp op) g) (hN : X.N[i]? = some x) (hvi : Vis X.env.scope x) (hd : (x == ("__debug__" : Str)) = false) (hcd : (x == ("__classdict__" : Str)) = false)
    (h : DE G X ix f) (h2 : DE G X e f2) (ha : ∀ ov iv new, augStore ix ov iv new = (do holding [new, ov, iv] (setItem ov iv new); release [new, ov, iv] []; pure .next)) : DS G X (.AugAssign (.Subscript (.Name x pos2) ix tpos) op e pos) (sAugL i f g f2) := by
  obtain ⟨r, hr, k⟩ := hv.ex
  obtain ⟨t, p, q⟩ := h.ex
  obtain ⟨t2, p2, q2⟩ := h2.ex
  refine ⟨_, ps_augS (pe_var hN hvi hd hcd) p pget_list p2 (show PIp X op r from hr) set_list ha, fun N σ H ρ o E I e w => ?_⟩
  unfold sAugL at e
  split at e
  · rename_i hw
    obtain ⟨b0, d0, h0⟩ := isOw_ex hw
    obtain ⟨a, ea, _, _⟩ := I.ow i b0 d0 h0
    obtain ⟨z, e1, e⟩ := Option.bind_eq_some_iff.mp e
    obtain ⟨kk, e2, e⟩ := Option.bind_eq_some_iff.mp e
    split at e
    · rename_i kk b ds hsl
      obtain ⟨d, e3, e⟩ := Option.bind_eq_some_iff.mp e
      obtain ⟨y, e4, e⟩ := Option.bind_eq_some_iff.mp e
      obtain ⟨d2, e5, e⟩ := Option.bind_eq_some_iff.mp e
      obtain ⟨d3, e6, e⟩ := Option.bind_eq_some_iff.mp e
      split at e
      · rename_i b1 es hsl1
        obtain ⟨j, e7, e⟩ := Option.bind_eq_some_iff.mp e
        cases e
        refine ⟨_, ea, q N σ H ρ z.1 z.2 _ I e1 fun v1 H1 g1 r1 => ?_⟩
        obtain ⟨a2, ea2, _, o1⟩ := g1.env.ow i b (.lst ds) hsl
        rw [ea] at ea2
        cases ea2
        have ri := (r1.repT g1.env e2).int
        subst ri
        cases o1 with
        | lst k1 k2 =>
          obtain ⟨v, k3, k4⟩ := k2.atI e3
          refine ⟨a, _, kk, v, rfl, rfl, .of k1, k3, ?_⟩
          refine q2 N σ H1 z.2 y.1 y.2 _ g1.env e4 fun v2 H2 g2 r2 => ?_
          refine k _ H2 v v2 d d2 d3 _ g2.env.domM (.inl (g2.rep k4)) (r2.repT g2.env e5) e6 fun v3 H3 s r3 => ?_
          have g := (g1.trans g2).trans (GoE.grow g2.env s)
          obtain ⟨a3, ea3, _, o3⟩ := g.env.ow i b1 (.lst es) hsl1
          rw [ea] at ea3
          cases ea3
          cases o3 with
          | lst m1 m2 =>
            have own : OwnS σ y.2 a := ⟨i, b1, .lst es, hsl1, ea⟩
            refine ⟨a, _, kk, j, rfl, rfl, m1, by rw [m2.length]; exact e7, w σ _ (g.go.trans (GoE.updS g.env hsl1 ea ?_).go)⟩
            exact .lst upd_same ((m2.updO own).set (r3.updO own) j)
      · cases e
    · cases e
  · cases e

/-! ### methods -/
/-- a method of a list (T = "list"), a tuple .. that reads -/
structure VMet (G : Gx) (X : Cx) (T id : String) (g : D → List D → Option D) : Prop where
  ex : ∃ r, MtR X id r ∧ (∀ M H x dx ds d, RepT G M H x dx → g dx ds = some d → tyV X.K T x H) ∧
    ∀ M H x vs dx ds d Q, DomM M H → RepT G M H x dx → RepTL G M H vs ds → g dx ds = some d → Gives G M H d Q → r x vs H Q
/-- one that changes its list -/
structure VMut (G : Gx) (X : Cx) (T id : String) (g : D → List D → Option (D × D)) : Prop where
  ex : ∃ r, MtR X id r ∧ (∀ M H a d, OwnN G M H a d → T = "list" → (∃ ds, d = .lst ds) → tyV X.K T (.ref a) H) ∧
    ∀ M H a vs d ds z Q, DomM M H → M a → OwnN G M H a d → RepL G M H vs ds → g d ds = some z →
      (∀ o v, OwnN G M (upd H a o) a z.1 → Rep G M (upd H a o) v z.2 → Q v (upd H a o)) → r (.ref a) vs H Q
end
end DL

set_option maxRecDepth 100000
namespace DL
open PySem PySem.Spec PyProof.Rows L2

/-! ### what is walked -/
/-- the iterator J hands out the data its, in order; st: the slot of the own list that is walked -/
def ItOk (G : Gx) (N : Addr → Prop) (σ0 : L2.St) (ρ0 : Ev) (H0 : Hp) (J : It) (its : List D) (st : Option Nat) : Prop :=
  ∀ N' : Addr → Prop, (∀ a, N' a → N a ∨ H0 a = none) → ∀ σ ρ H (i : Nat), Go G N' σ0 ρ0 H0 σ ρ H → (∀ i0, st = some i0 → ∃ b, ρ[i0]? = some (Slot.ow b (.lst its)) ∧ σ[i0]? = σ0[i0]?) →
    (its.length ≤ i → J.stop i H) ∧ ∀ d, its[i]? = some d → J.go i H ∧ ∀ x H', J.yld i H x H' → Same H H' ∧ Rep G (MM N' σ ρ) H' x d
abbrev FI := Ev → Option ((List D × Option Nat) × Ev)
structure DI (G : Gx) (X : Cx) (tg e : Expr) (f : FI) : Prop where
  ex : ∃ wi, PI X tg e wi ∧ ∀ N σ H ρ z ρ' R, EnvOk G N H σ ρ → f ρ = some (z, ρ') → (∀ J H', GoE G N σ ρ H ρ' H' → ItOk G N σ ρ' H' J z.1 z.2 → (∀ i0, z.2 = some i0 → ∃ b, ρ'[i0]? = some (Slot.ow b (.lst z.1))) → R J H') → wi σ H R
section
variable {G : Gx} {X : Cx} {tg l : Expr}
theorem Go.mono' {N N' : Addr → Prop} {σ0 σ : L2.St} {ρ0 ρ : Ev} {H0 H : Hp} (hN : ∀ a, N' a → N a ∨ H0 a = none) (g : Go G N' σ0 ρ0 H0 σ ρ H) : (∀ a, MM N' σ ρ a → MM N σ0 ρ0 a ∨ H0 a = none) ∧ ∀ a o, H0 a = some o → ¬ MM N σ0 ρ0 a → H a = some o := by
  refine ⟨fun a h => ?_, fun a o e n => g.fr a o e fun z => n (.inr z)⟩
  rcases h with h | h
  · rcases hN a h with z | z
    · exact .inl (.inl z)
    · exact .inr z
  · rcases g.own a h with z | z
    · exact .inl (.inr z)
    · exact .inr z
/-- a list or a tuple, whichever it is -/
def iSeq (K : PySem.W.Frag) (tl : TE) : TI := fun σ H R => tl σ H fun x H1 => ∃ a, x = .ref a ∧ ((∃ xs, SqL K H1 a xs ∧ R (Itl K a) H1) ∨ (∃ xs, SqT K H1 a xs ∧ R (Itt K a) H1))
theorem pi_seq {tl : TE} (hl : PE X l tl) : PI X tg l (iSeq X.K tl) := by
  refine ⟨fun pins s σ H R I h => ?_⟩
  refine thn (hl.run pins s σ H _ I h) fun v s1 ⟨x, H1, I1, r1, q1⟩ => ?_
  obtain ⟨a, e, q1⟩ := q1
  subst e
  cases r1
  rcases q1 with ⟨xs, hq, q⟩ | ⟨xs, hq, q⟩
  · obtain ⟨its, rv, p, hz⟩ := I1.list hq
    refine wpAny_pyIter_list p.isList ?_
    refine ⟨s1.heap.objs.size, [s1.heap.objs.size], _, _, H1, rfl, I1.kept (t' := s1.toks) fun b o e => Heap.get?_push_of_some _ e, turn_list a _, ⟨_, Heap.get?_push_size _ rfl, rfl, rfl⟩, fun b hb => ?_, q⟩
    have e : b = s1.heap.objs.size := by simpa using hb
    subst e
    exact I1.fpOk (Nat.le_refl _) (I1.hok.fresh (Nat.le_refl _))
  · obtain ⟨its, rv, p, hz⟩ := I1.tuple hq
    refine wpAny_pyIter_tuple (show s1.heap.IsTuple a its.toArray from p) ?_
    refine ⟨s1.heap.objs.size, [s1.heap.objs.size], _, _, H1, rfl, I1.kept (t' := s1.toks) fun b o e => Heap.get?_push_of_some _ e, turn_tuple a _, ⟨_, Heap.get?_push_size _ rfl, rfl, rfl⟩, fun b hb => ?_, q⟩
    have e : b = s1.heap.objs.size := by simpa using hb
    subst e
    exact I1.fpOk (Nat.le_refl _) (I1.hok.fresh (Nat.le_refl _))
def iVal (f : FE) : FI := fun ρ => (f ρ).bind fun z => match z.1 with
  | .val (.lst xs) => some ((xs, none), z.2)
  | .val (.tup xs) => some ((xs, none), z.2)
  | .val (.frz xs) => some ((xs, none), z.2)
  | .own i => match z.2[i]? with
    | some (.ow _ (.lst xs)) => some ((xs, some i), z.2)
    | _ => none
  | _ => none
theorem same_eq {xs ys : List V} {i : Nat} {x : V} (e : xs[i]? = some x) (h : ∀ zs, zs = xs → zs[i]? = some x) : True := trivial
theorem itl_ok {K : PySem.W.Frag} {N : Addr → Prop} {σ0 : L2.St} {ρ0 : Ev} {H0 : Hp} {a : Addr} {its : List D} {st : Option Nat}
    (h : ∀ N' : Addr → Prop, (∀ a, N' a → N a ∨ H0 a = none) → ∀ σ ρ H, Go G N' σ0 ρ0 H0 σ ρ H → (∀ i0, st = some i0 → ∃ b, ρ[i0]? = some (Slot.ow b (.lst its)) ∧ σ[i0]? = σ0[i0]?) → ∃ xs, SqL K H a xs ∧ RepL G (MM N' σ ρ) H xs its) : ItOk G N σ0 ρ0 H0 (Itl K a) its st := by
  intro N' hN σ ρ H i g hst
  obtain ⟨xs, hs, hr⟩ := h N' hN σ ρ H g hst
  refine ⟨fun hi => ⟨xs, hs, by rw [hr.length]; exact hi⟩, fun d hd => ?_⟩
  obtain ⟨x, hx, rx⟩ := hr.get hd
  refine ⟨⟨xs, x, hs, hx⟩, fun y H' ⟨e, q⟩ => ?_⟩
  subst e
  have := q xs hs
  rw [hx] at this
  cases this
  exact ⟨.refl _, rx⟩
theorem itt_ok {K : PySem.W.Frag} {N : Addr → Prop} {σ0 : L2.St} {ρ0 : Ev} {H0 : Hp} {a : Addr} {its : List D}
    (h : ∀ N' : Addr → Prop, (∀ a, N' a → N a ∨ H0 a = none) → ∀ σ ρ H, Go G N' σ0 ρ0 H0 σ ρ H → ∃ xs, SqT K H a xs ∧ RepL G (MM N' σ ρ) H xs its) : ItOk G N σ0 ρ0 H0 (Itt K a) its none := by
  intro N' hN σ ρ H i g hst
  obtain ⟨xs, hs, hr⟩ := h N' hN σ ρ H g
  refine ⟨fun hi => ⟨xs, hs, by rw [hr.length]; exact hi⟩, fun d hd => ?_⟩
  obtain ⟨x, hx, rx⟩ := hr.get hd
  refine ⟨⟨xs, x, hs, hx⟩, fun y H' ⟨e, q⟩ => ?_⟩
  subst e
  have := q xs hs
  rw [hx] at this
  cases this
  exact ⟨.refl _, rx⟩
theorem DI.val {f : FE} (h : DE G X l f) (hK : G.K = X.K) : DI G X tg l (iVal f) := by
  obtain ⟨t, p, q⟩ := h.ex
  refine ⟨_, pi_seq p, fun N σ H ρ z ρ' R I e w => ?_⟩
  obtain ⟨⟨r, ρ1⟩, e1, e⟩ := Option.bind_eq_some_iff.mp e
  refine q N σ H ρ r ρ1 _ I e1 fun v H1 g rr => ?_
  cases r with
  | own i =>
    dsimp only at e
    split at e
    · rename_i b xs hi
      cases e
      obtain ⟨ev, _⟩ := rr
      obtain ⟨a, ea, _, o⟩ := g.env.ow i b (.lst xs) hi
      rw [ev] at ea
      cases ea
      cases o with
      | lst h1 h2 =>
        refine ⟨a, rfl, .inl ⟨_, .of h1, w _ H1 g (itl_ok fun N' hN σ' ρ' H' g' hst => ?_) fun i0 hi0 => ?_⟩⟩
        · obtain ⟨b', e2, e3⟩ := hst i rfl
          obtain ⟨a2, e4, _, o2⟩ := g'.env.ow i b' _ e2
          rw [e3, ev] at e4
          cases e4
          cases o2 with
          | lst h3 h4 => exact ⟨_, .of h3, h4⟩
        · cases hi0
          exact ⟨b, hi⟩
    · cases e
  | val d =>
    have rr : Rep G (MM N σ ρ1) H1 v d := rr
    cases d with
    | lst ds =>
      cases e
      cases rr with
      | lst h1 h2 h3 =>
        refine ⟨_, rfl, .inl ⟨_, .of h2, w _ H1 g (itl_ok fun N' hN σ' ρ' H' g' hst => ?_) fun i0 hi0 => nomatch hi0⟩⟩
        obtain ⟨m1, m2⟩ := g'.mono' hN
        exact ⟨_, .of (m2 _ _ h2 h1), h3.mono m1 m2⟩
    | tup ds =>
      cases e
      cases rr with
      | tup h1 h2 h0 h3 =>
        refine ⟨_, rfl, .inr ⟨_, .inl (.inr ⟨_, h2⟩), w _ H1 g (itt_ok fun N' hN σ' ρ' H' g' => ?_) fun i0 hi0 => nomatch hi0⟩⟩
        obtain ⟨m1, m2⟩ := g'.mono' hN
        exact ⟨_, .inl (.inr ⟨_, m2 _ _ h2 h1⟩), h3.mono m1 m2⟩
    | frz ds =>
      cases e
      have rr' : Rep G (MM N σ ρ1) H1 v (.frz ds) := rr
      obtain ⟨a, xs, rfl, h2, h3⟩ := RepT.frz (.inl rr)
      refine ⟨a, rfl, .inl ⟨_, hK ▸ h2, w _ H1 g (itl_ok fun N' hN σ' ρ' H' g' hst => ?_) fun i0 hi0 => nomatch hi0⟩⟩
      obtain ⟨m1, m2⟩ := g'.mono' hN
      obtain ⟨a2, xs2, e2, h4, h5⟩ := RepT.frz (.inl (rr'.mono m1 m2))
      cases e2
      exact ⟨_, hK ▸ h4, h5⟩
    | _ => cases e
/-- range(n), range(m, n) -/
def rgD (lo : Int) (n : Nat) : List D := (List.range n).map fun k => D.int (lo + (k : Nat))
theorem itr_ok {N : Addr → Prop} {σ0 : L2.St} {ρ0 : Ev} {H0 : Hp} (lo : Int) (n : Nat) : ItOk G N σ0 ρ0 H0 (Itr lo n) (rgD lo n) none := by
  intro N' hN σ ρ H i g hst
  refine ⟨fun hi => by unfold rgD at hi; rw [List.length_map, List.length_range] at hi; exact hi, fun d hd => ?_⟩
  unfold rgD at hd
  rw [List.getElem?_map] at hd
  cases hq : (List.range n)[i]? with
  | none => rw [hq] at hd; cases hd
  | some k =>
    rw [hq] at hd
    cases hd
    obtain ⟨hi, e⟩ := List.getElem?_eq_some_iff.mp hq
    rw [List.length_range] at hi
    rw [List.getElem_range] at e
    subst e
    refine ⟨hi, fun x H' ⟨e1, e2⟩ => ?_⟩
    subst e1
    subst e2
    exact ⟨.refl _, .int _⟩
noncomputable def iRg1 (f : FE) : FI := fun ρ => (f ρ).bind fun z => (z.1.rd z.2).bind fun d => match d with
  | .int j => if Grd (-(2 ^ 62) ≤ j ∧ j < 2 ^ 62) then some ((rgD 0 j.toNat, none), z.2) else none
  | _ => none
noncomputable def iRg2 (f f2 : FE) : FI := fun ρ => (f ρ).bind fun z => (f2 z.2).bind fun y => (z.1.rd y.2).bind fun d => (y.1.rd y.2).bind fun d2 => match d, d2 with
  | .int i, .int j => if Grd (-(2 ^ 62) ≤ i ∧ i < 2 ^ 62 ∧ -(2 ^ 62) ≤ j ∧ j < 2 ^ 62) then some ((rgD i (j - i).toNat, none), y.2) else none
  | _, _ => none
variable {a b : Expr} {f f2 : FE} {p pos : Pos}
theorem DI.range1 (hg : Gl X "range") (hm : X.mg "range" = none) (h : DE G X a f) (hs : starEach [a] X.env = [(false, eval a X.env)]) (hs' : starEach [a] X.env = (false, eval a X.env) :: starEach [] X.env) : DI G X tg (.Call (.Name "range" p) [a] [] pos) (iRg1 f) := by
  obtain ⟨t, pt, q⟩ := h.ex
  refine ⟨_, pi_range1 hg hm (pa_cons pt pa_nil hs') hs, fun N σ H ρ z ρ' R I e w => ?_⟩
  obtain ⟨⟨r, ρ1⟩, e1, e⟩ := Option.bind_eq_some_iff.mp e
  obtain ⟨d, e2, e⟩ := Option.bind_eq_some_iff.mp e
  split at e
  · split at e
    · rename_i hb
      cases e
      refine q N σ H ρ r ρ1 _ I e1 fun v H1 g rr => ?_
      exact ⟨_, by rw [(rr.repT g.env e2).int], hb.1, hb.2, w _ H1 g (itr_ok 0 _) fun i0 hi0 => nomatch hi0⟩
    · cases e
  · cases e
theorem DI.range2 (hg : Gl X "range") (hm : X.mg "range" = none) (h : DE G X a f) (h2 : DE G X b f2) (hs : starEach [a, b] X.env = [(false, eval a X.env), (false, eval b X.env)]) (hs2 : starEach [b] X.env = [(false, eval b X.env)])
    (hs' : starEach [a, b] X.env = (false, eval a X.env) :: starEach [b] X.env) (hs2' : starEach [b] X.env = (false, eval b X.env) :: starEach [] X.env) : DI G X tg (.Call (.Name "range" p) [a, b] [] pos) (iRg2 f f2) := by
  obtain ⟨t, pt, q⟩ := h.ex
  obtain ⟨t2, pt2, q2⟩ := h2.ex
  refine ⟨_, pi_range2 hg hm (pa_cons pt (pa_cons pt2 pa_nil hs2') hs') hs hs2, fun N σ H ρ z ρ' R I e w => ?_⟩
  obtain ⟨z1, e1, e⟩ := Option.bind_eq_some_iff.mp e
  obtain ⟨z2, e2, e⟩ := Option.bind_eq_some_iff.mp e
  obtain ⟨d1, e3, e⟩ := Option.bind_eq_some_iff.mp e
  obtain ⟨d2, e4, e⟩ := Option.bind_eq_some_iff.mp e
  split at e
  · split at e
    · rename_i hb
      cases e
      refine two_run q q2 I e1 e2 e3 e4 fun x y H2 g rx ry => ?_
      exact ⟨_, _, by rw [rx.int, ry.int], hb, w _ H2 g (itr_ok _ _) fun i0 hi0 => nomatch hi0⟩
    · cases e
  · cases e
end

/-! ### for -/
open Classical in
noncomputable def stable (st : Option Nat) (its : List D) (ρ : Ev) : Bool := match st with
  | none => true
  | some i0 => decide (ρ[i0]? = some (Slot.ow true (.lst its)))
noncomputable def forL (tmp : List Nat) (st : Option Nat) (all : List D) (g : FG) (s : FS) : List D → FS
  | [] => fun ρ => some (.nx ρ)
  | d :: ds => fun ρ => (g d ρ).bind fun ρ1 => (s ρ1).bind fun o => match o with
    | .nx ρ2 => if stable st all (wps tmp ρ2) then forL tmp st all g s ds (wps tmp ρ2) else none
    | .ct ρ2 => if stable st all (wps tmp ρ2) then forL tmp st all g s ds (wps tmp ρ2) else none
    | .bk ρ2 => some (.nx (wps tmp ρ2))
    | .rt d n ρ2 => some (.rt d n ρ2)
/-- the walked list's slot is held for the loop -/
def unpin (i : Nat) (o : Out) : Option Out := match o with
  | .nx ρ => match ρ[i]? with
    | some (.ow _ d) => some (.nx (ρ.set i (.ow false d)))
    | _ => none
  | .rt d n ρ => some (.rt d n ρ)
  | _ => none
noncomputable def sFor (tmp : List Nat) (fi : FI) (g : FG) (s : FS) : FS := fun ρ => (fi ρ).bind fun z => match z.1.2 with
  | none => forL tmp none z.1.1 g s z.1.1 z.2
  | some i0 => match z.2[i0]? with
    | some (.ow true _) => forL tmp (some i0) z.1.1 g s z.1.1 z.2
    | some (.ow false d) => (forL tmp (some i0) z.1.1 g s z.1.1 (z.2.set i0 (.ow true d))).bind (unpin i0)
    | _ => none
section
open Classical
variable {G : Gx} {X : Cx} {tg iter : Expr} {body : List Stmt} {pos : Pos}
theorem EnvOk.flag {N : Addr → Prop} {H : Hp} {σ : L2.St} {ρ : Ev} {i : Nat} {b b' : Bool} {d : D} (I : EnvOk G N H σ ρ) (h : ρ[i]? = some (.ow b d)) : EnvOk G N H σ (ρ.set i (.ow b' d)) ∧ (∀ a, OwnS σ (ρ.set i (.ow b' d)) a ↔ OwnS σ ρ a) := by
  have hl : i < ρ.length := (List.getElem?_eq_some_iff.mp h).1
  have own : ∀ a, OwnS σ (ρ.set i (.ow b' d)) a ↔ OwnS σ ρ a := fun a => by
    constructor
    · rintro ⟨j, b1, d1, e1, e2⟩
      rcases set_get e1 with ⟨rfl, e, _⟩ | ⟨hj, e1⟩
      · exact ⟨j, b, d, h, e2⟩
      · exact ⟨j, b1, d1, e1, e2⟩
    · rintro ⟨j, b1, d1, e1, e2⟩
      by_cases hj : i = j
      · subst hj
        exact ⟨i, b', d, List.getElem?_set_self hl, e2⟩
      · exact ⟨j, b1, d1, by rw [List.getElem?_set_ne hj]; exact e1, e2⟩
  have mm : MM N σ (ρ.set i (.ow b' d)) = MM N σ ρ := by
    funext a
    apply propext
    exact ⟨fun z => z.elim .inl fun z => .inr ((own a).mp z), fun z => z.elim .inl fun z => .inr ((own a).mpr z)⟩
  refine ⟨⟨by rw [List.length_set]; exact I.len, I.dom, fun j d1 e => ?_, fun j b1 d1 e => ?_, fun j l b1 b2 d1 d2 a h1 h2 h3 h4 => ?_⟩, own⟩
  · rw [mm]
    rcases set_get e with ⟨_, e, _⟩ | ⟨_, e⟩
    · cases e
    · exact I.imm j d1 e
  · rw [mm]
    rcases set_get e with ⟨rfl, e, _⟩ | ⟨_, e⟩
    · cases e
      exact I.ow j b d h
    · exact I.ow j b1 d1 e
  · have k1 : ∃ b3 d3, ρ[j]? = some (Slot.ow b3 d3) := by
      rcases set_get h1 with ⟨rfl, _, _⟩ | ⟨_, e⟩
      · exact ⟨b, d, h⟩
      · exact ⟨b1, d1, e⟩
    have k2 : ∃ b3 d3, ρ[l]? = some (Slot.ow b3 d3) := by
      rcases set_get h2 with ⟨rfl, _, _⟩ | ⟨_, e⟩
      · exact ⟨b, d, h⟩
      · exact ⟨b2, d2, e⟩
    obtain ⟨b3, d3, k1⟩ := k1
    obtain ⟨b4, d4, k2⟩ := k2
    exact I.ne j l b3 b4 d3 d4 a k1 k2 h3 h4
theorem Go.pinned {N : Addr → Prop} {H : Hp} {σ : L2.St} {ρ : Ev} {i : Nat} {d : D} (I : EnvOk G N H σ ρ) (h : ρ[i]? = some (.ow false d)) : Go G N σ ρ H σ (ρ.set i (.ow true d)) H := by
  obtain ⟨J, own⟩ := I.flag (b' := true) h
  refine ⟨J, fun _ _ e _ => e, fun _ h => h, fun a z => .inl ((own a).mp z), fun j d1 e => ⟨⟨d1, ?_⟩, rfl⟩⟩
  have hj : i ≠ j := fun z => by rw [← z, h] at e; cases e
  rw [List.getElem?_set_ne hj]
  exact e
theorem Go.unpin {N : Addr → Prop} {H H' : Hp} {σ σ' : L2.St} {ρ ρ' : Ev} {i : Nat} {b : Bool} {d d' : D} (h : ρ[i]? = some (.ow false d)) (h' : ρ'[i]? = some (.ow b d')) (g : Go G N σ ρ H σ' ρ' H') : Go G N σ ρ H σ' (ρ'.set i (.ow false d')) H' := by
  obtain ⟨J, own⟩ := g.env.flag (b' := false) h'
  refine ⟨J, g.fr, g.dom, fun a z => g.own a ((own a).mp z), fun j d1 e => ?_⟩
  obtain ⟨⟨d2, e1⟩, e2⟩ := g.pin j d1 e
  have hj : i ≠ j := fun z => by rw [← z, h] at e; cases e
  exact ⟨⟨d2, by rw [List.getElem?_set_ne hj]; exact e1⟩, e2⟩
theorem for_core {N : Addr → Prop} {σ0 : L2.St} {ρ0 : Ev} {H0 : Hp} {J : It} {its : List D} {st : Option Nat} {tmp : List Nat} {t : TG} {u : TS} {g : FG} {s : FS} {W : List Nat} {E : Ends} {o : Out} {ρs : Ev}
    (q1 : ∀ N σ H ρ v d ρ' Q, EnvOk G N H σ ρ → Rep G (MM N σ ρ) H v d → g d ρ = some ρ' → (∀ σ' H', Go G N σ ρ H σ' ρ' H' → Outside W σ ρ σ' ρ' → Q σ' H') → t v σ H Q)
    (q2 : ∀ N σ H ρ o E, EnvOk G N H σ ρ → s ρ = some o → PostS G N σ ρ H E o → u E σ H)
    (hit : ItOk G N σ0 ρ0 H0 J its st) (g0 : Go G N σ0 ρ0 H0 σ0 ρs H0) (hst : ∀ i0, st = some i0 → ρs[i0]? = some (Slot.ow true (.lst its)))
    (e : forL tmp st its g s its ρs = some o) (w : PostS G N σ0 ρs H0 E o) :
    ∃ W : Nat → Nat → L2.St → Hp → Prop, (∃ m, W 0 m σ0 H0) ∧ ∀ i m σ H, W i m σ H →
      (J.stop i H ∧ E.nx σ H) ∨ (J.go i H ∧ ∃ Nx : L2.St → Hp → Prop, (∀ σ' H', Nx σ' H' → ∃ m', m' < m ∧ W (i + 1) m' σ' H') ∧ ∀ x H', J.yld i H x H' → t x σ H' fun σ2 H2 => u { E with nx := Nx, ct := Nx, bk := E.nx } σ2 H2) := by
  have pinned : ∀ σ ρ H, Go G N σ0 ρs H0 σ ρ H → ∀ i0, st = some i0 → σ[i0]? = σ0[i0]? := fun σ ρ H g i0 h => (g.pin i0 _ (hst i0 h)).2
  have stb : ∀ ρ, stable st its ρ = true → ∀ i0, st = some i0 → ρ[i0]? = some (Slot.ow true (.lst its)) := fun ρ h i0 hi => by
    subst hi
    unfold stable at h
    exact of_decide_eq_true h
  refine ⟨fun i m σ H => ∃ ρ, Go G N σ0 ρs H0 σ ρ H ∧ (∀ i0, st = some i0 → ρ[i0]? = some (Slot.ow true (.lst its))) ∧ m = its.length - i ∧ i ≤ its.length ∧ forL tmp st its g s (its.drop i) ρ = some o,
    ⟨its.length, ρs, .refl g0.env, hst, by simp, Nat.zero_le _, by simpa using e⟩, ?_⟩
  rintro i m σ H ⟨ρ, gg, hs, rfl, hi, e1⟩
  obtain ⟨h1, h2⟩ := hit N (fun a z => .inl z) σ ρ H i (g0.trans gg) fun i0 hi0 => ⟨true, hs i0 hi0, pinned σ ρ H gg i0 hi0⟩
  by_cases hlt : i < its.length
  · have hd : its[i]? = some its[i] := List.getElem?_eq_getElem hlt
    obtain ⟨hgo, hy⟩ := h2 _ hd
    rw [List.drop_eq_getElem_cons hlt] at e1
    unfold forL at e1
    obtain ⟨ρ1, e2, e1⟩ := Option.bind_eq_some_iff.mp e1
    obtain ⟨o2, e3, e1⟩ := Option.bind_eq_some_iff.mp e1
    refine .inr ⟨hgo, fun σ' H' => ∃ ρ', Go G N σ0 ρs H0 σ' ρ' H' ∧ (∀ i0, st = some i0 → ρ'[i0]? = some (Slot.ow true (.lst its))) ∧ forL tmp st its g s (its.drop (i + 1)) ρ' = some o,
      fun σ' H' ⟨ρ', k1, k2, k3⟩ => ⟨its.length - (i + 1), by omega, ρ', k1, k2, rfl, hlt, k3⟩, fun x H' hx => ?_⟩
    obtain ⟨sm, rx⟩ := hy x H' hx
    have gx := gg.trans (GoE.grow gg.env sm).go
    refine q1 N σ H' ρ x _ ρ1 _ gx.env rx e2 fun σ2 H2 g2 _ => ?_
    have g12 := gx.trans g2
    refine q2 N σ2 H2 ρ1 o2 _ g2.env e3 ?_
    cases o2 with
    | nx ρ2 =>
      dsimp only at e1
      split at e1
      · rename_i hb
        exact fun σ' H' g3 => ⟨_, (g12.trans g3).trans (Go.wps g3.env), stb _ hb, e1⟩
      · cases e1
    | ct ρ2 =>
      dsimp only at e1
      split at e1
      · rename_i hb
        exact fun σ' H' g3 => ⟨_, (g12.trans g3).trans (Go.wps g3.env), stb _ hb, e1⟩
      · cases e1
    | bk ρ2 => cases e1; exact fun σ' H' g3 => w σ' H' ((g12.trans g3).trans (Go.wps g3.env))
    | rt d n ρ2 => cases e1; exact fun σ' v H' g3 r => w σ' v H' (g12.trans g3) (r.back g12)
  · have ei : i = its.length := by omega
    subst ei
    rw [List.drop_length] at e1
    cases e1
    exact .inl ⟨h1 (Nat.le_refl _), w σ H gg⟩
theorem DS.for {fi : FI} {g : FG} {s : FS} {W : List Nat} (tmp : List Nat) (hp : PassesOwn (model X.prog X.w) X.A X.env X.xe) (hc : X.calm = true) (hi : DI G X tg iter fi) (hg : DG G X W tg g) (hb : DSs G X body s)
    (hs : ∀ x, foldedSetIterable iter X.env x = pure x) : DS G X (.For tg iter body [] pos) (sFor tmp fi g s) := by
  obtain ⟨wi, pi, q0⟩ := hi.ex
  obtain ⟨t, pg, q1⟩ := hg.ex
  obtain ⟨u, pb, q2⟩ := hb.ex
  refine ⟨_, ps_for hp hc pi pg pb hs, fun N σ H ρ o E I e w => ?_⟩
  obtain ⟨⟨⟨its, st⟩, ρ1⟩, e1, e⟩ := Option.bind_eq_some_iff.mp e
  refine q0 N σ H ρ (its, st) ρ1 _ I e1 fun J H1 g1 hit hsl => ?_
  have w1 := w.on g1.go
  cases st with
  | none => exact for_core q1 q2 hit (.refl g1.env) (fun i0 z => nomatch z) e w1
  | some i0 =>
    obtain ⟨b, hsl⟩ := hsl i0 rfl
    dsimp only at e hsl
    rw [hsl] at e
    cases b with
    | true => exact for_core q1 q2 hit (.refl g1.env) (fun j z => by cases z; exact hsl) e w1
    | false =>
      obtain ⟨o1, e2, e3⟩ := Option.bind_eq_some_iff.mp e
      have hl : i0 < ρ1.length := (List.getElem?_eq_some_iff.mp hsl).1
      have gp := Go.pinned g1.env hsl
      refine for_core q1 q2 hit gp (fun j z => by cases z; exact List.getElem?_set_self hl) e2 ?_
      cases o1 with
      | nx ρ2 =>
        unfold DL.unpin at e3
        dsimp only at e3
        split at e3
        · rename_i b2 d2 h2
          cases e3
          exact fun σ' H' g3 => w1 σ' H' (Go.unpin hsl h2 (gp.trans g3))
        · cases e3
      | bk ρ2 => cases e3
      | ct ρ2 => cases e3
      | rt d n ρ2 => cases e3; exact w1.on gp
end
end DL

set_option maxRecDepth 100000
namespace DL
open PySem PySem.Spec PyProof.Rows L2

/-! ### one reading for all contexts -/
def tE (G : Gx) (f : FE) : TE := fun σ H Q => ∃ N ρ r ρ', EnvOk G N H σ ρ ∧ f ρ = some (r, ρ') ∧ ∀ v H', GoE G N σ ρ H ρ' H' → RR G N σ ρ' H' v r → Q v H'
def tTst (G : Gx) (f : FT) : TT := fun σ H Q => ∃ N ρ b ρ', EnvOk G N H σ ρ ∧ f ρ = some (b, ρ') ∧ ∀ H', GoE G N σ ρ H ρ' H' → Q b H'
def tgD (G : Gx) (W : List Nat) (g : FG) : TG := fun v σ H Q => ∃ N ρ d ρ', EnvOk G N H σ ρ ∧ Rep G (MM N σ ρ) H v d ∧ g d ρ = some ρ' ∧ ∀ σ' H', Go G N σ ρ H σ' ρ' H' → Outside W σ ρ σ' ρ' → Q σ' H'
def tiD (G : Gx) (f : FI) : TI := fun σ H R => ∃ N ρ z ρ', EnvOk G N H σ ρ ∧ f ρ = some (z, ρ') ∧ ∀ J H', GoE G N σ ρ H ρ' H' → ItOk G N σ ρ' H' J z.1 z.2 → (∀ i0, z.2 = some i0 → ∃ b, ρ'[i0]? = some (Slot.ow b (.lst z.1))) → R J H'
structure DTs (G : Gx) (X : Cx) (es : List Expr) (f : FT) : Prop where
  ex : ∃ t, PTs X es t ∧ ∀ N σ H ρ b ρ' Q, EnvOk G N H σ ρ → f ρ = some (b, ρ') → (∀ H', GoE G N σ ρ H ρ' H' → Q b H') → t σ H Q
section
variable {G : Gx} {X : Cx} {e c tg : Expr} {es : List Expr}
theorem DE.pe {f : FE} (h : DE G X e f) : PE X e (tE G f) := by
  obtain ⟨t, p, q⟩ := h.ex
  exact ⟨fun pins s σ H Q I ⟨N, ρ, r, ρ', h1, h2, h3⟩ => p.run pins s σ H Q I (q N σ H ρ r ρ' Q h1 h2 h3)⟩
def kYes : FT := fun ρ => some (true, ρ)
theorem DTs.nil : DTs G X [] kYes := ⟨_, pts_nil, fun N σ H ρ b ρ' Q I e q => by cases e; exact q H (.refl I)⟩
theorem DTs.one {k : FT} (h : DT G X c k) : DTs G X [c] k := by
  obtain ⟨t, p, q⟩ := h.ex
  exact ⟨_, pts_one p, q⟩
theorem DTs.pt {f : FT} (h : DTs G X es f) : PTs X es (tTst G f) := by
  obtain ⟨t, p, q⟩ := h.ex
  exact ⟨fun pins s σ H Q I ⟨N, ρ, r, ρ', h1, h2, h3⟩ => p.run pins s σ H Q I (q N σ H ρ r ρ' Q h1 h2 h3)⟩
theorem DG.pg {W : List Nat} {g : FG} (h : DG G X W tg g) : PG X tg (tgD G W g) := by
  obtain ⟨t, p, q⟩ := h.ex
  exact ⟨fun pins s σ H v u Q I r ⟨N, ρ, d, ρ', h1, h2, h3, h4⟩ => p.run pins s σ H v u Q I r (q N σ H ρ v d ρ' Q h1 h2 h3 h4)⟩
theorem DI.pi {f : FI} (h : DI G X tg e f) : PI X tg e (tiD G f) := by
  obtain ⟨t, p, q⟩ := h.ex
  exact ⟨fun pins s σ H R I ⟨N, ρ, z, ρ', h1, h2, h3⟩ => p.run pins s σ H R I (q N σ H ρ z ρ' R h1 h2 h3)⟩

/-! ### wiping -/
def wipeE (ρ : Ev) : List Nat → Ev
  | [] => ρ
  | v :: vs => (wipeE ρ vs).set v .un
def rst (ρ1 ρk : Ev) : List Nat → Ev
  | [] => ρk
  | v :: vs => (rst ρ1 ρk vs).set v (ρ1.getD v .un)
def noOwn (ρ : Ev) (vs : List Nat) : Bool := vs.all fun i => !isOw ρ i && decide (i < ρ.length)
theorem wipeE_len (ρ : Ev) : ∀ vs, (wipeE ρ vs).length = ρ.length
  | [] => rfl
  | v :: vs => by unfold wipeE; rw [List.length_set, wipeE_len ρ vs]
theorem rst_len (ρ1 ρk : Ev) : ∀ vs, (rst ρ1 ρk vs).length = ρk.length
  | [] => rfl
  | v :: vs => by unfold rst; rw [List.length_set, rst_len ρ1 ρk vs]
theorem wipeE_out {ρ : Ev} {j : Nat} : ∀ {vs : List Nat}, j ∉ vs → (wipeE ρ vs)[j]? = ρ[j]?
  | [], _ => rfl
  | v :: vs, h => by
    unfold wipeE
    rw [List.getElem?_set_ne (fun z => h (by rw [z]; exact List.mem_cons_self))]
    exact wipeE_out fun z => h (List.mem_cons_of_mem _ z)
theorem wipeE_in {ρ : Ev} {j : Nat} : ∀ {vs : List Nat}, j ∈ vs → j < ρ.length → (wipeE ρ vs)[j]? = some .un
  | v :: vs, h, hl => by
    unfold wipeE
    by_cases e : v = j
    · rw [e, List.getElem?_set_self (by rw [wipeE_len]; exact hl)]
    · rw [List.getElem?_set_ne e]
      exact wipeE_in ((List.mem_cons.mp h).resolve_left fun z => e z.symm) hl
theorem rst_out {ρ1 ρk : Ev} {j : Nat} : ∀ {vs : List Nat}, j ∉ vs → (rst ρ1 ρk vs)[j]? = ρk[j]?
  | [], _ => rfl
  | v :: vs, h => by
    unfold rst
    rw [List.getElem?_set_ne (fun z => h (by rw [z]; exact List.mem_cons_self))]
    exact rst_out fun z => h (List.mem_cons_of_mem _ z)
theorem rst_in {ρ1 ρk : Ev} {j : Nat} : ∀ {vs : List Nat}, j ∈ vs → j < ρk.length → (rst ρ1 ρk vs)[j]? = some (ρ1.getD j .un)
  | v :: vs, h, hl => by
    unfold rst
    by_cases e : v = j
    · rw [e, List.getElem?_set_self (by rw [rst_len]; exact hl)]
    · rw [List.getElem?_set_ne e]
      exact rst_in ((List.mem_cons.mp h).resolve_left fun z => e z.symm) hl
theorem wipe_outS {σ : L2.St} {j : Nat} : ∀ {vs : List Nat}, j ∉ vs → (wipe σ vs)[j]? = σ[j]?
  | [], _ => rfl
  | v :: vs, h => by
    unfold wipe
    rw [List.getElem?_set_ne (fun z => h (by rw [z]; exact List.mem_cons_self))]
    exact wipe_outS fun z => h (List.mem_cons_of_mem _ z)
theorem wipe_inS {σ : L2.St} {j : Nat} : ∀ {vs : List Nat}, j ∈ vs → j < σ.length → (wipe σ vs)[j]? = some none
  | v :: vs, h, hl => by
    unfold wipe
    by_cases e : v = j
    · rw [e, List.getElem?_set_self (by rw [wipe_length]; exact hl)]
    · rw [List.getElem?_set_ne e]
      exact wipe_inS ((List.mem_cons.mp h).resolve_left fun z => e z.symm) hl
theorem wipe_eq {σ σ' : L2.St} {vs : List Nat} (hl : σ'.length = σ.length) (h : ∀ j, j ∉ vs → σ'[j]? = σ[j]?) : wipe σ' vs = wipe σ vs := by
  apply List.ext_getElem?
  intro j
  by_cases hj : j ∈ vs
  · by_cases hlt : j < σ.length
    · rw [wipe_inS hj hlt, wipe_inS hj (by rw [hl]; exact hlt)]
    · rw [List.getElem?_eq_none (by rw [wipe_length]; omega), List.getElem?_eq_none (by rw [wipe_length]; omega)]
  · rw [wipe_outS hj, wipe_outS hj, h j hj]
theorem noOwn_at {ρ : Ev} {vs : List Nat} (h : noOwn ρ vs = true) {j : Nat} (hj : j ∈ vs) : (∀ b d, ρ[j]? ≠ some (Slot.ow b d)) ∧ j < ρ.length := by
  have := List.all_eq_true.mp h j hj
  rw [Bool.and_eq_true] at this
  obtain ⟨h1, h2⟩ := this
  refine ⟨fun b d z => ?_, of_decide_eq_true h2⟩
  unfold isOw at h1
  rw [z] at h1
  cases h1
theorem own_wipe {σ : L2.St} {ρ : Ev} {vs : List Nat} {a : Addr} (h : OwnS (wipe σ vs) (wipeE ρ vs) a) : OwnS σ ρ a := by
  obtain ⟨j, b, d, e1, e2⟩ := h
  by_cases hj : j ∈ vs
  · have hl : j < ρ.length := by
      have := (List.getElem?_eq_some_iff.mp e1).1
      rwa [wipeE_len] at this
    rw [wipeE_in hj hl] at e1
    cases e1
  · rw [wipeE_out hj] at e1
    rw [wipe_outS hj] at e2
    exact ⟨j, b, d, e1, e2⟩
theorem EnvOk.wipe {N : Addr → Prop} {H : Hp} {σ : L2.St} {ρ : Ev} (I : EnvOk G N H σ ρ) (vs : List Nat) : EnvOk G N H (wipe σ vs) (wipeE ρ vs) := by
  have hM : ∀ a, MM N (L2.wipe σ vs) (wipeE ρ vs) a → MM N σ ρ a := fun a h => h.elim .inl fun z => .inr (own_wipe z)
  have out : ∀ {j : Nat} {s : Slot}, (wipeE ρ vs)[j]? = some s → s ≠ .un → j ∉ vs := fun {j s} e hs hj => by
    have hl : j < ρ.length := by
      have := (List.getElem?_eq_some_iff.mp e).1
      rwa [wipeE_len] at this
    rw [wipeE_in hj hl] at e
    cases e
    exact hs rfl
  refine ⟨by rw [wipe_length, wipeE_len]; exact I.len, I.dom, fun j d h => ?_, fun j b d h => ?_, fun j l b b' d d' a h1 h2 h3 h4 => ?_⟩
  · have hj := out h (fun z => by cases z)
    rw [wipeE_out hj] at h
    obtain ⟨v, e, r⟩ := I.imm j d h
    exact ⟨v, by rw [wipe_outS hj]; exact e, r.mono (fun a z => .inl (hM a z)) fun _ _ e _ => e⟩
  · have hj := out h (fun z => by cases z)
    rw [wipeE_out hj] at h
    obtain ⟨a, e, n, r⟩ := I.ow j b d h
    exact ⟨a, by rw [wipe_outS hj]; exact e, n, r.mono (fun a z => .inl (hM a z)) (fun _ _ e _ => e) rfl⟩
  · have hj := out h1 (fun z => by cases z)
    have hl := out h2 (fun z => by cases z)
    rw [wipeE_out hj] at h1
    rw [wipeE_out hl] at h2
    rw [wipe_outS hj] at h3
    rw [wipe_outS hl] at h4
    exact I.ne j l b b' d d' a h1 h2 h3 h4
theorem EnvOk.notOwn {N : Addr → Prop} {H : Hp} {σ : L2.St} {ρ : Ev} (I : EnvOk G N H σ ρ) {a : Addr} (h : N a) : ¬ OwnS σ ρ a := fun ⟨j, b, d, e1, e2⟩ => by
  obtain ⟨a', e3, n, _⟩ := I.ow j b d e1
  rw [e2] at e3
  cases e3
  exact n h
theorem OwnN.mono' {M M' : Addr → Prop} {H H' : Hp} {a : Addr} {d : D} (hM : ∀ a, M' a → M a ∨ H a = none) (hH : ∀ a o, H a = some o → ¬ M a → H' a = some o) (ha : H' a = H a) (h : OwnN G M H a d) : OwnN G M' H' a d := h.mono hM hH ha
/-- a forbidden object changes -/
theorem EnvOk.updF {N : Addr → Prop} {H : Hp} {σ : L2.St} {ρ : Ev} {p : Addr} {o : HO} (I : EnvOk G N H σ ρ) (hp : N p) : EnvOk G N (upd H p o) σ ρ := by
  have hh : ∀ c u, H c = some u → ¬ MM N σ ρ c → upd H p o c = some u := fun c u e z => by rw [upd_ne (fun q => z (by rw [q]; exact .inl hp))]; exact e
  have dm : ∀ c, H c ≠ none → upd H p o c ≠ none := fun c z => by
    by_cases hc : c = p
    · rw [hc, upd_same]; exact (fun z => nomatch z)
    · rw [upd_ne hc]; exact z
  refine ⟨I.len, fun c z => dm c (I.dom c z), fun j d e => ?_, fun j b d e => ?_, I.ne⟩
  · obtain ⟨v, e1, r⟩ := I.imm j d e
    exact ⟨v, e1, r.mono (fun c z => .inl z) hh⟩
  · obtain ⟨a, e1, n, r⟩ := I.ow j b d e
    exact ⟨a, e1, n, r.mono (fun c z => .inl z) hh (upd_ne fun q => n (by rw [q]; exact hp))⟩
end
/-- the words of a comprehension's turn -/
noncomputable def lcL (vs : List Nat) (st : Option Nat) (all : List D) (g : FG) (k : FT) (f : FE) : List D → Ev → List D → Option (List D × Ev)
  | [], ρ, acc => some (acc, ρ)
  | d :: ds, ρ, acc => (g d ρ).bind fun ρ1 => (k ρ1).bind fun z => match z.1 with
    | false => if stableL st all (wipeE z.2 vs) then lcL vs st all g k f ds (wipeE z.2 vs) acc else none
    | true => (f z.2).bind fun y => match y.1 with
      | .val e => if Grd (acc.length < sizeLine ∧ stableL st all (wipeE y.2 vs) = true) then lcL vs st all g k f ds (wipeE y.2 vs) (acc ++ [e]) else none
      | .own _ => none
where
  stableL (st : Option Nat) (its : List D) (ρ : Ev) : Bool := match st with
    | none => true
    | some i0 => (open Classical in decide (∃ b, ρ[i0]? = some (Slot.ow b (.lst its))))
end DL

set_option maxRecDepth 100000
namespace DL
open PySem PySem.Spec PyProof.Rows L2
noncomputable def xLc (fi : FI) (vs : List Nat) (g : FG) (k : FT) (f : FE) : FN := fun ρ => (fi ρ).bind fun z => if noOwn z.2 vs then (lcL vs z.1.2 z.1.1 g k f z.1.1 (wipeE z.2 vs) []).bind fun y => some (.lst y.1, rst z.2 y.2 vs) else none
section
open Classical
variable {G : Gx}
theorem GoE.trans' {N N' : Addr → Prop} {H H1 H2 : Hp} {σ : L2.St} {ρ ρ1 ρ2 : Ev} (g : GoE G N σ ρ H ρ1 H1) (k : GoE G N' σ ρ1 H1 ρ2 H2) : GoE G N' σ ρ H ρ2 H2 :=
  ⟨k.env, fun a o e n => k.fr a o (g.fr a o e n) (by rw [g.shape.own σ]; exact n), fun a h => k.dom a (g.dom a h), g.shape.trans k.shape⟩
theorem rst_go {N N' : Addr → Prop} {H1 H : Hp} {σ : L2.St} {ρ1 ρk : Ev} {vs : List Nat} (I : EnvOk G N H1 σ ρ1) (hN : ∀ a, N' a → N a ∨ H1 a = none) (no : noOwn ρ1 vs = true) (g : Go G N' σ ρ1 H1 (wipe σ vs) ρk H) (o : Outside vs σ ρ1 (wipe σ vs) ρk)
    (un : ∀ j ∈ vs, ρk[j]? = some .un) : GoE G N' σ ρ1 H1 (rst ρ1 ρk vs) H := by
  have hlen : ρk.length = ρ1.length := o.rlen
  have hin : ∀ j ∈ vs, (rst ρ1 ρk vs)[j]? = ρ1[j]? := fun j hj => by
    obtain ⟨_, hl⟩ := noOwn_at no hj
    rw [rst_in hj (by rw [hlen]; exact hl), List.getD_eq_getElem?_getD, List.getElem?_eq_getElem hl]
    rfl
  have own : ∀ a, OwnS σ (rst ρ1 ρk vs) a ↔ OwnS (wipe σ vs) ρk a := fun a => by
    constructor
    · rintro ⟨j, b, d, e1, e2⟩
      by_cases hj : j ∈ vs
      · rw [hin j hj] at e1
        exact ((noOwn_at no hj).1 b d e1).elim
      · rw [rst_out hj] at e1
        exact ⟨j, b, d, e1, by rw [wipe_outS hj]; exact e2⟩
    · rintro ⟨j, b, d, e1, e2⟩
      by_cases hj : j ∈ vs
      · rw [un j hj] at e1
        cases e1
      · rw [wipe_outS hj] at e2
        exact ⟨j, b, d, by rw [rst_out hj]; exact e1, e2⟩
  have mm : MM N' σ (rst ρ1 ρk vs) = MM N' (wipe σ vs) ρk := by
    funext a
    apply propext
    exact ⟨fun z => z.elim .inl fun z => .inr ((own a).mp z), fun z => z.elim .inl fun z => .inr ((own a).mpr z)⟩
  obtain ⟨m1, m2⟩ := g.mono' hN
  have sh : Shape ρ1 (rst ρ1 ρk vs) := by
    refine ⟨by rw [rst_len]; exact hlen.symm, fun j b d e => ?_, fun j e => ?_⟩
    · by_cases hj : j ∈ vs
      · exact ((noOwn_at no hj).1 b d e).elim
      · rw [rst_out hj]
        exact o.ow j b d hj e
    · by_cases hj : j ∈ vs
      · exact hin j hj
      · rw [rst_out hj]
        exact o.same j hj e
  refine ⟨⟨by rw [rst_len, hlen]; exact I.len, g.env.dom, fun j d e => ?_, fun j b d e => ?_, fun j l b b' d d' a h1 h2 h3 h4 => ?_⟩, g.fr, g.dom, sh⟩
  · rw [mm]
    by_cases hj : j ∈ vs
    · rw [hin j hj] at e
      obtain ⟨v, e1, r⟩ := I.imm j d e
      exact ⟨v, e1, r.mono m1 m2⟩
    · rw [rst_out hj] at e
      obtain ⟨v, e1, r⟩ := g.env.imm j d e
      rw [wipe_outS hj] at e1
      exact ⟨v, e1, r⟩
  · rw [mm]
    by_cases hj : j ∈ vs
    · rw [hin j hj] at e
      exact ((noOwn_at no hj).1 b d e).elim
    · rw [rst_out hj] at e
      obtain ⟨a, e1, n, r⟩ := g.env.ow j b d e
      rw [wipe_outS hj] at e1
      exact ⟨a, e1, n, r⟩
  · have k1 : j ∉ vs := fun hj => by rw [hin j hj] at h1; exact (noOwn_at no hj).1 b d h1
    have k2 : l ∉ vs := fun hj => by rw [hin l hj] at h2; exact (noOwn_at no hj).1 b' d' h2
    rw [rst_out k1] at h1
    rw [rst_out k2] at h2
    exact g.env.ne j l b b' d d' a h1 h2 (by rw [wipe_outS k1]; exact h3) (by rw [wipe_outS k2]; exact h4)
theorem Go.wiped {N : Addr → Prop} {H : Hp} {σ : L2.St} {ρ : Ev} {vs : List Nat} (I : EnvOk G N H σ ρ) (no : ∀ j ∈ vs, ∀ d, ρ[j]? ≠ some (Slot.ow true d)) : Go G N σ ρ H (wipe σ vs) (wipeE ρ vs) H := by
  refine ⟨I.wipe vs, fun _ _ e _ => e, fun _ h => h, fun a h => .inl (own_wipe h), fun j d h => ?_⟩
  have hj : j ∉ vs := fun z => no j z d h
  exact ⟨⟨d, by rw [wipeE_out hj]; exact h⟩, wipe_outS hj⟩
theorem Go.wipeTail {N : Addr → Prop} {H H' : Hp} {σ σ' : L2.St} {ρ ρ' : Ev} {vs : List Nat} (g : Go G N σ ρ H σ' ρ' H') (no : ∀ j ∈ vs, ∀ d, ρ[j]? ≠ some (Slot.ow true d)) : Go G N σ ρ H (wipe σ' vs) (wipeE ρ' vs) H' := by
  refine ⟨g.env.wipe vs, g.fr, g.dom, fun a h => g.own a (own_wipe h), fun j d h => ?_⟩
  have hj : j ∉ vs := fun z => no j z d h
  obtain ⟨⟨d', e1⟩, e2⟩ := g.pin j d h
  exact ⟨⟨d', by rw [wipeE_out hj]; exact e1⟩, by rw [wipe_outS hj]; exact e2⟩
/-- outside of vs nothing is seen of the wiping -/
theorem Outside.wiped {vs : List Nat} {σ : L2.St} {ρ : Ev} : Outside vs σ ρ (wipe σ vs) (wipeE ρ vs) :=
  ⟨wipe_length _ _, wipeE_len _ _, fun j h => wipe_outS h, fun j b d h e => ⟨d, by rw [wipeE_out h]; exact e⟩, fun j h _ => wipeE_out h⟩
theorem Go.updF {N : Addr → Prop} {H1 H : Hp} {σ σ' : L2.St} {ρ1 ρ' : Ev} {p : Addr} {o : HO} (g : Go G N σ ρ1 H1 σ' ρ' H) (hp : N p) (h1 : H1 p = none) : Go G N σ ρ1 H1 σ' ρ' (upd H p o) := by
  refine ⟨g.env.updF hp, fun a u e n => ?_, fun a h => ?_, g.own, g.pin⟩
  · rw [upd_ne (ne_of_none e h1)]
    exact g.fr a u e n
  · by_cases hc : a = p
    · rw [hc, upd_same]; exact (fun z => nomatch z)
    · rw [upd_ne hc]; exact g.dom a h
theorem lc_prop {wi : TI} {t : TG} {tt : TT} {te : TE} {fi : FI} {vs W : List Nat} {g : FG} {k : FT} {f : FE}
    (q0 : ∀ N σ H ρ z ρ' R, EnvOk G N H σ ρ → fi ρ = some (z, ρ') → (∀ J H', GoE G N σ ρ H ρ' H' → ItOk G N σ ρ' H' J z.1 z.2 → (∀ i0, z.2 = some i0 → ∃ b, ρ'[i0]? = some (Slot.ow b (.lst z.1))) → R J H') → wi σ H R)
    (q1 : ∀ N σ H ρ v d ρ' Q, EnvOk G N H σ ρ → Rep G (MM N σ ρ) H v d → g d ρ = some ρ' → (∀ σ' H', Go G N σ ρ H σ' ρ' H' → Outside W σ ρ σ' ρ' → Q σ' H') → t v σ H Q)
    (q2 : ∀ N σ H ρ b ρ' Q, EnvOk G N H σ ρ → k ρ = some (b, ρ') → (∀ H', GoE G N σ ρ H ρ' H' → Q b H') → tt σ H Q)
    (q3 : ∀ N σ H ρ r ρ' Q, EnvOk G N H σ ρ → f ρ = some (r, ρ') → (∀ v H', GoE G N σ ρ H ρ' H' → RR G N σ ρ' H' v r → Q v H') → te σ H Q)
    (hW : ∀ j ∈ W, j ∈ vs) :
    ∀ N σ H ρ d ρ' Q, EnvOk G N H σ ρ → xLc fi vs g k f ρ = some (d, ρ') → (∀ p H', GoE G (addN N p) σ ρ H ρ' H' → H p = none → OwnN G (addN (MM N σ ρ') p) H' p d → Q (.ref p) H') → tLc wi t tt te vs σ H Q := by
  intro N σ H ρ d ρ' Q I e q
  obtain ⟨⟨⟨its, st⟩, ρ1⟩, e1, e⟩ := Option.bind_eq_some_iff.mp e
  split at e
  · rename_i no
    dsimp only at e no
    obtain ⟨⟨out, ρe⟩, e2, e⟩ := Option.bind_eq_some_iff.mp e
    cases e
    refine q0 N σ H ρ (its, st) ρ1 _ I e1 fun J H1 g1 hit hsl => ?_
    dsimp only at hit hsl
    intro D hD
    have hN' : ∀ a, addN N D a → N a ∨ H1 a = none := fun a z => z.elim .inl fun e => .inr (by rw [e]; exact hD)
    have hDD : upd H1 D (.lst []) D ≠ none := by rw [upd_same]; exact (fun z => nomatch z)
    have J1 : EnvOk G (addN N D) (upd H1 D (.lst [])) σ ρ1 := g1.env.more (same_new hD) hD hDD
    have gb : Go G (addN N D) σ ρ1 H1 σ ρ1 (upd H1 D (.lst [])) := ⟨J1, fun a o e _ => same_new hD a o e, fun a h => (GoE.grow g1.env (same_new (o := .lst []) hD)).dom a h, fun a h => .inl h, fun i d h => ⟨⟨d, h⟩, rfl⟩⟩
    have gw := gb.trans (Go.wiped (vs := vs) J1 fun j hj d z => (noOwn_at no hj).1 true d z)
    have hlen1 : ∀ j ∈ vs, j < ρ1.length := fun j hj => (noOwn_at no hj).2
    have hst0 : ∀ i0, st = some i0 → i0 ∉ vs := fun i0 h hj => by
      obtain ⟨b, hb⟩ := hsl i0 h
      exact (noOwn_at no hj).1 b _ hb
    refine ⟨fun i m Hc => ∃ ρk acc ds, Go G (addN N D) σ ρ1 H1 (wipe σ vs) ρk Hc ∧ Outside vs σ ρ1 (wipe σ vs) ρk ∧ (∀ j ∈ vs, ρk[j]? = some .un) ∧ (∀ i0, st = some i0 → ∃ b, ρk[i0]? = some (Slot.ow b (.lst its))) ∧
      Hc D = some (.lst acc) ∧ RepL G (MM (addN N D) (wipe σ vs) ρk) Hc acc ds ∧ m = its.length - i ∧ i ≤ its.length ∧ lcL vs st its g k f (its.drop i) ρk ds = some (out, ρe),
      ⟨its.length, wipeE ρ1 vs, [], [], gw, .wiped, fun j hj => wipeE_in hj (hlen1 j hj), fun i0 h => by
        obtain ⟨b, hb⟩ := hsl i0 h
        exact ⟨b, by rw [wipeE_out (hst0 i0 h)]; exact hb⟩, upd_same, .nil, by simp, Nat.zero_le _, by simpa using e2⟩, ?_⟩
    rintro i m Hc ⟨ρk, acc, ds, gk, ok, unk, stk, hDc, rl, rfl, hi, e3⟩
    obtain ⟨h1, h2⟩ := hit (addN N D) hN' (wipe σ vs) ρk Hc i gk fun i0 h => by
      obtain ⟨b, hb⟩ := stk i0 h
      exact ⟨b, hb, wipe_outS (hst0 i0 h)⟩
    have hND : addN N D D := .inr rfl
    by_cases hlt : i < its.length
    · have hd : its[i]? = some its[i] := List.getElem?_eq_getElem hlt
      obtain ⟨hgo, hy⟩ := h2 _ hd
      rw [List.drop_eq_getElem_cons hlt] at e3
      unfold lcL at e3
      obtain ⟨ρ2, e4, e3⟩ := Option.bind_eq_some_iff.mp e3
      obtain ⟨⟨b, ρ3⟩, e5, e3⟩ := Option.bind_eq_some_iff.mp e3
      refine .inr ⟨hgo, fun H' => ∃ ρ' acc ds, Go G (addN N D) σ ρ1 H1 (wipe σ vs) ρ' H' ∧ Outside vs σ ρ1 (wipe σ vs) ρ' ∧ (∀ j ∈ vs, ρ'[j]? = some .un) ∧ (∀ i0, st = some i0 → ∃ b, ρ'[i0]? = some (Slot.ow b (.lst its))) ∧
        H' D = some (.lst acc) ∧ RepL G (MM (addN N D) (wipe σ vs) ρ') H' acc ds ∧ lcL vs st its g k f (its.drop (i + 1)) ρ' ds = some (out, ρe),
        fun H' ⟨ρ', acc, ds, k1, k2, k3, k4, k5, k6, k7⟩ => ⟨its.length - (i + 1), by omega, ρ', acc, ds, k1, k2, k3, k4, k5, k6, rfl, hlt, k7⟩, fun x H' hx => ?_⟩
      obtain ⟨sm, rx⟩ := hy x H' hx
      have gx := Go.trans (Go.refl gk.env) (GoE.grow gk.env sm).go
      refine q1 _ (wipe σ vs) H' ρk x _ ρ2 _ gx.env rx e4 fun σ3 H3 g2 o2 => ?_
      have o2' := o2.mono hW
      have hw3 : wipe σ3 vs = wipe σ vs := wipe_eq (o2'.slen.trans (wipe_length _ _)) fun j hj => by rw [o2'.st j hj, wipe_outS hj]
      refine ⟨hw3, q2 _ σ3 H3 ρ2 b ρ3 _ g2.env e5 fun H4 g3 => ?_⟩
      have g13 := (gx.trans g2).trans g3.go
      have keepD : ∀ {σa : L2.St} {ρa : Ev} {Ha : Hp}, Go G (addN N D) (wipe σ vs) ρk Hc σa ρa Ha → Ha D = some (.lst acc) := fun ga => ga.fr D _ hDc (gk.env.notOwn hND)
      have o3 : Outside vs (wipe σ vs) ρk σ3 ρ3 := o2'.trans g3.shape.outside
      have stabl : ∀ ρz, lcL.stableL st its ρz = true → ∀ i0, st = some i0 → ∃ b, ρz[i0]? = some (Slot.ow b (.lst its)) := fun ρz hz i0 h => by
        subst h
        unfold lcL.stableL at hz
        exact of_decide_eq_true hz
      -- back to the turn's head
      have nok : ∀ j ∈ vs, ∀ d, ρk[j]? ≠ some (Slot.ow true d) := fun j hj d z => by rw [unk j hj] at z; cases z
      have back : ∀ {ρa : Ev} {Ha : Hp}, Go G (addN N D) (wipe σ vs) ρk Hc σ3 ρa Ha → Outside vs (wipe σ vs) ρk σ3 ρa →
          Go G (addN N D) (wipe σ vs) ρk Hc (wipe σ vs) (wipeE ρa vs) Ha ∧ Outside vs σ ρ1 (wipe σ vs) (wipeE ρa vs) ∧ ∀ j ∈ vs, (wipeE ρa vs)[j]? = some .un := fun {ρa Ha} ga oa => by
        have gz := Go.wipeTail ga nok
        rw [hw3] at gz
        refine ⟨gz, (ok.trans oa).trans ?_, fun j hj => wipeE_in hj ?_⟩
        · have := Outside.wiped (vs := vs) (σ := σ3) (ρ := ρa)
          rwa [hw3] at this
        · rw [oa.rlen, ok.rlen]
          exact hlen1 j hj
      cases b with
      | false =>
        rw [if_neg (by decide)]
        dsimp only at e3
        split at e3
        · rename_i hs
          obtain ⟨z1, z2, z3⟩ := back g13 o3
          have gz := gk.trans z1
          exact ⟨_, acc, ds, gz, z2, z3, stabl _ hs, keepD g13, z1.repL rl, e3⟩
        · cases e3
      | true =>
        rw [if_pos rfl]
        dsimp only at e3
        obtain ⟨⟨r, ρ4⟩, e6, e3⟩ := Option.bind_eq_some_iff.mp e3
        refine q3 _ σ3 H4 ρ3 r ρ4 _ g3.env e6 fun y H5 g4 ry => ?_
        have g14 := g13.trans g4.go
        cases r with
        | own j => cases e3
        | val dv =>
          dsimp only at e3
          split at e3
          · rename_i hs
            obtain ⟨z1, z2, z3⟩ := back g14 (o3.trans g4.shape.outside)
            have gz := gk.trans z1
            have ry : Rep G (MM (addN N D) σ3 ρ4) H5 y dv := ry
            have rlz := z1.repL rl
            refine ⟨acc, keepD g14, by rw [rl.length]; exact hs.1, _, acc ++ [y], ds ++ [dv], gz.updF hND hD, z2, z3, stabl _ hs.2, upd_same, ?_, e3⟩
            have hh : ∀ c u, H5 c = some u → ¬ MM (addN N D) (wipe σ vs) (wipeE ρ4 vs) c → upd H5 D (.lst (acc ++ [y])) c = some u := fun c u e z => by
              rw [upd_ne (fun q => z (by rw [q]; exact .inl hND))]; exact e
            refine (rlz.mono (fun c z => .inl z) hh).append (.cons (ry.mono (fun c z => .inl ?_) fun c u e z => ?_) .nil)
            · rcases z with z | z
              · exact .inl z
              · rw [← hw3] at z
                exact .inr (own_wipe z)
            · rw [upd_ne (fun q => z (by rw [q]; exact .inl hND))]; exact e
          · cases e3
    · have ei : i = its.length := by omega
      subst ei
      rw [List.drop_length] at e3
      cases e3
      refine .inl ⟨h1 (Nat.le_refl _), ?_⟩
      have gr := rst_go g1.env hN' no gk ok unk
      refine q D Hc (g1.trans' gr) (back_none g1.dom hD) ?_
      refine .lst hDc (rl.mono (fun c z => .inl ?_) fun _ _ e _ => e)
      -- who owns what, behind it
      rw [← mm_add] at z
      rcases z with z | ⟨j, b, d, e5, e6⟩
      · exact .inl z
      · refine .inr ?_
        by_cases hj : j ∈ vs
        · obtain ⟨na, hl⟩ := noOwn_at no hj
          rw [rst_in hj (by rw [ok.rlen]; exact hl), List.getD_eq_getElem?_getD, List.getElem?_eq_getElem hl] at e5
          exact (na b d (by rw [List.getElem?_eq_getElem hl]; exact e5)).elim
        · rw [rst_out hj] at e5
          exact ⟨j, b, d, e5, by rw [wipe_outS hj]; exact e6⟩
  · cases e
end
section
open Classical
variable {G : Gx} {X : Cx} {elt tg iter : Expr} {ifs : List Expr} {scope : Scope} {own : List (Str × Nat)} {pos : Pos} {fi : FI} {g : FG} {k : FT} {f : FE} {W : List Nat}
/-- [elt for tg in iter if ..] -/
theorem DN.lc (hc : X.calm = true) (hN : X.N.Nodup) (hi : DI G X tg iter fi) (ok : BlkOk X.N X.env.scope scope own)
    (hg : ∀ (s : Shared) (H : Hp) (C : Addr) (cl : List (Str × Addr)) (fp : List Addr), DG G (X.blk s H scope (compEnvC scope cl C X.env) fp) W tg g)
    (ht : ∀ (s : Shared) (H : Hp) (C : Addr) (cl : List (Str × Addr)) (fp : List Addr), DTs G (X.blk s H scope (compEnvC scope cl C X.env) fp) ifs k)
    (he : ∀ (s : Shared) (H : Hp) (C : Addr) (cl : List (Str × Addr)) (fp : List Addr), DE G (X.blk s H scope (compEnvC scope cl C X.env) fp) elt f)
    (hW : ∀ j ∈ W, j ∈ own.map (·.2)) (hs : ∀ x, foldedSetIterable iter X.env x = pure x) :
    DN G X (.ListComp elt [⟨tg, iter, ifs, 0⟩] scope pos) (xLc fi (own.map (·.2)) g k f) := by
  obtain ⟨wi, pi, q0⟩ := hi.ex
  refine ⟨_, pe_lc hc hN pi ok (fun s H C cl fp => (hg s H C cl fp).pg) (fun s H C cl fp => (ht s H C cl fp).pt) (fun s H C cl fp => (he s H C cl fp).pe) hs, ?_⟩
  exact lc_prop q0 (fun N σ H ρ v d ρ' Q h1 h2 h3 h4 => ⟨N, ρ, d, ρ', h1, h2, h3, h4⟩) (fun N σ H ρ b ρ' Q h1 h2 h3 => ⟨N, ρ, b, ρ', h1, h2, h3⟩) (fun N σ H ρ r ρ' Q h1 h2 h3 => ⟨N, ρ, r, ρ', h1, h2, h3⟩) hW
theorem DAsN.lc {i : Nat} {y : Str} {py spos : Pos} (hc : X.calm = true) (hN : X.N.Nodup) (hy : X.N[i]? = some y) (hyl : X.env.scope.names.lookup y = some .local)
    (hsw : swapsWith (.ListComp elt [⟨tg, iter, ifs, 0⟩] scope pos) (some (.Name y py)) spos.line X.env = pure true) (hi : DI G X tg iter fi) (ok : BlkOk X.N X.env.scope scope own)
    (hg : ∀ (s : Shared) (H : Hp) (C : Addr) (cl : List (Str × Addr)) (fp : List Addr), DG G (X.blk s H scope (compEnvC scope cl C X.env) fp) W tg g)
    (ht : ∀ (s : Shared) (H : Hp) (C : Addr) (cl : List (Str × Addr)) (fp : List Addr), DTs G (X.blk s H scope (compEnvC scope cl C X.env) fp) ifs k)
    (he : ∀ (s : Shared) (H : Hp) (C : Addr) (cl : List (Str × Addr)) (fp : List Addr), DE G (X.blk s H scope (compEnvC scope cl C X.env) fp) elt f)
    (hW : ∀ j ∈ W, j ∈ own.map (·.2)) (hs : ∀ x, foldedSetIterable iter X.env x = pure x) :
    DAsN G X (.Assign [.Name y py] (.ListComp elt [⟨tg, iter, ifs, 0⟩] scope pos) spos) i (xLc fi (own.map (·.2)) g k f) := by
  obtain ⟨wi, pi, q0⟩ := hi.ex
  refine ⟨_, ps_setLc hc hN hy hyl hsw pi ok (fun s H C cl fp => (hg s H C cl fp).pg) (fun s H C cl fp => (ht s H C cl fp).pt) (fun s H C cl fp => (he s H C cl fp).pe) hs, ?_⟩
  exact lc_prop q0 (fun N σ H ρ v d ρ' Q h1 h2 h3 h4 => ⟨N, ρ, d, ρ', h1, h2, h3, h4⟩) (fun N σ H ρ b ρ' Q h1 h2 h3 => ⟨N, ρ, b, ρ', h1, h2, h3⟩) (fun N σ H ρ r ρ' Q h1 h2 h3 => ⟨N, ρ, r, ρ', h1, h2, h3⟩) hW
end
end DL

set_option maxRecDepth 100000
namespace DL
open PySem PySem.Spec PyProof.Rows L2

/-! ### what a def promises -/
abbrev FD := List Slot → Option (D × List Slot)
def pinnedAll (ρ : Ev) : Bool := ρ.all fun s => match s with
  | .imm _ => true
  | .ow true _ => true
  | _ => false
def RetV (G : Gx) (N : Addr → Prop) (σ : L2.St) (H : Hp) (ρ' : Ev) (H' : Hp) (v : V) (d : D) : Bool → Prop
  | false => Rep G (MM N σ ρ') H' v d
  | true => ∃ p, v = .ref p ∧ H p = none ∧ EnvOk G (addN N p) H' σ ρ' ∧ OwnN G (addN (MM N σ ρ') p) H' p d
def spD (G : Gx) (nw : Bool) (m : FD) : Sp := fun vs H Q _ => ∃ N ρ d ρ', EnvOk G N H (vs.map some) ρ ∧ pinnedAll ρ = true ∧ m ρ = some (d, ρ') ∧ ∀ v H', GoE G N (vs.map some) ρ H ρ' H' → RetV G N (vs.map some) H ρ' H' v d nw → Q v H'
/-- the arguments' slots behind the body: own ones as they stand -/
def rstA : List Slot → Ev → List Slot
  | [], _ => []
  | .ow true d :: r, s :: t => s :: rstA r t
  | s :: r, _ :: t => s :: rstA r t
  | s :: r, [] => s :: r
def fnD (nw : Bool) (n k : Nat) (s : FS) : FD := fun ρa => if ρa.length = n then (s (ρa ++ List.replicate k .un)).bind fun o => match o with
  | .nx ρ' => if nw then none else some (.non, rstA ρa ρ')
  | .rt d b ρ' => if nw = true ∧ b = false then none else some (d, rstA ρa ρ')
  | _ => none
  else none
section
variable {G : Gx} {N : Addr → Prop} {H H' : Hp} {σ' : L2.St} {ρa ρ' : Ev} {vs : List V} {k : Nat}
theorem rstA_len : ∀ {ρa ρ' : Ev}, (rstA ρa ρ').length = ρa.length
  | [], _ => rfl
  | .ow true d :: r, s :: t => by simp only [rstA, List.length_cons]; rw [rstA_len]
  | .ow false d :: r, s :: t => by simp only [rstA, List.length_cons]; rw [rstA_len]
  | .imm d :: r, s :: t => by simp only [rstA, List.length_cons]; rw [rstA_len]
  | .un :: r, s :: t => by simp only [rstA, List.length_cons]; rw [rstA_len]
  | .ow true d :: r, [] => rfl
  | .ow false d :: r, [] => rfl
  | .imm d :: r, [] => rfl
  | .un :: r, [] => rfl
theorem rstA_own : ∀ {ρa ρ' : Ev} {i : Nat} {d : D} {s : Slot}, ρa[i]? = some (.ow true d) → ρ'[i]? = some s → (rstA ρa ρ')[i]? = some s
  | [], _, _, _, _, h, _ => by simp at h
  | _ :: _, [], _, _, _, _, h => by simp at h
  | x :: r, s :: t, 0, d, _, h, h' => by
    simp at h h'
    subst h h'
    simp [rstA]
  | x :: r, s :: t, i + 1, d, _, h, h' => by
    have ih := @rstA_own r t i d _ (by simpa using h) (by simpa using h')
    cases x with
    | ow b d' => cases b <;> simpa [rstA] using ih
    | _ => simpa [rstA] using ih
theorem rstA_else : ∀ {ρa ρ' : Ev} {i : Nat} {s : Slot}, ρa[i]? = some s → (∀ d, s ≠ .ow true d) → (rstA ρa ρ')[i]? = some s
  | [], _, _, _, h, _ => by simp at h
  | x :: r, [], i, s, h, hs => by
    cases x with
    | ow b d' => cases b <;> simpa [rstA] using h
    | _ => simpa [rstA] using h
  | x :: r, s :: t, 0, _, h, hs => by
    simp at h
    subst h
    cases x with
    | ow b d' => cases b with
      | true => exact (hs d' rfl).elim
      | false => simp [rstA]
    | _ => simp [rstA]
  | x :: r, s :: t, i + 1, _, h, hs => by
    have ih := @rstA_else r t i _ (by simpa using h) hs
    cases x with
    | ow b d' => cases b <;> simpa [rstA] using ih
    | _ => simpa [rstA] using ih
theorem pinnedAll_at {ρ : Ev} (h : pinnedAll ρ = true) {i : Nat} {s : Slot} (e : ρ[i]? = some s) : (∃ d, s = .imm d) ∨ ∃ d, s = .ow true d := by
  have := List.all_eq_true.mp h s (List.mem_of_getElem? e)
  cases s with
  | un => cases this
  | imm d => exact .inl ⟨d, rfl⟩
  | ow b d => cases b with
    | true => exact .inr ⟨d, rfl⟩
    | false => cases this
theorem start_at {i : Nat} (hi : i < vs.length) : (vs.map some ++ List.replicate k none : L2.St)[i]? = (vs.map some)[i]? := List.getElem?_append_left (by rw [List.length_map]; exact hi)
theorem own_start {ρa : Ev} (hl : vs.length = ρa.length) {a : Addr} : OwnS (vs.map some ++ List.replicate k none) (ρa ++ List.replicate k .un) a ↔ OwnS (vs.map some) ρa a := by
  constructor
  · rintro ⟨i, b, d, e1, e2⟩
    by_cases hi : i < ρa.length
    · rw [List.getElem?_append_left hi] at e1
      rw [start_at (by omega)] at e2
      exact ⟨i, b, d, e1, e2⟩
    · rw [List.getElem?_append_right (by omega)] at e1
      have := List.mem_of_getElem? e1
      rw [List.mem_replicate] at this
      cases this.2
  · rintro ⟨i, b, d, e1, e2⟩
    have hi : i < ρa.length := (List.getElem?_eq_some_iff.mp e1).1
    exact ⟨i, b, d, by rw [List.getElem?_append_left hi]; exact e1, by rw [start_at (by omega)]; exact e2⟩
theorem EnvOk.start (I : EnvOk G N H (vs.map some) ρa) (k : Nat) : EnvOk G N H (vs.map some ++ List.replicate k none) (ρa ++ List.replicate k .un) := by
  have hl : vs.length = ρa.length := by have := I.len; rwa [List.length_map] at this
  have mm : MM N (vs.map some ++ List.replicate k none) (ρa ++ List.replicate k .un) = MM N (vs.map some) ρa := by
    funext a
    apply propext
    exact ⟨fun z => z.elim .inl fun z => .inr ((own_start hl).mp z), fun z => z.elim .inl fun z => .inr ((own_start hl).mpr z)⟩
  have lo : ∀ {i : Nat} {s : Slot}, (ρa ++ List.replicate k Slot.un)[i]? = some s → s ≠ .un → i < ρa.length ∧ ρa[i]? = some s := fun {i s} e hs => by
    by_cases hi : i < ρa.length
    · exact ⟨hi, by rw [← e, List.getElem?_append_left hi]⟩
    · rw [List.getElem?_append_right (by omega)] at e
      have := List.mem_of_getElem? e
      rw [List.mem_replicate] at this
      exact (hs this.2).elim
  refine ⟨by simp [hl], I.dom, fun i d h => ?_, fun i b d h => ?_, fun i j b b' d d' a h1 h2 h3 h4 => ?_⟩
  · obtain ⟨hi, e⟩ := lo h (fun z => by cases z)
    obtain ⟨v, e1, r⟩ := I.imm i d e
    exact ⟨v, by rw [start_at (by omega)]; exact e1, by rw [mm]; exact r⟩
  · obtain ⟨hi, e⟩ := lo h (fun z => by cases z)
    obtain ⟨a, e1, n, r⟩ := I.ow i b d e
    exact ⟨a, by rw [start_at (by omega)]; exact e1, n, by rw [mm]; exact r⟩
  · obtain ⟨hi, e⟩ := lo h1 (fun z => by cases z)
    obtain ⟨hj, e'⟩ := lo h2 (fun z => by cases z)
    rw [start_at (by omega)] at h3 h4
    exact I.ne i j b b' d d' a e e' h3 h4
/-- behind the body: the caller's view -/
theorem Go.caller (I : EnvOk G N H (vs.map some) ρa) (pa : pinnedAll ρa = true) (g : Go G N (vs.map some ++ List.replicate k none) (ρa ++ List.replicate k .un) H σ' ρ' H') :
    GoE G N (vs.map some) ρa H (rstA ρa ρ') H' ∧ (∀ a, OwnS (vs.map some) (rstA ρa ρ') a → OwnS σ' ρ' a) ∧ ∀ (i : Nat) (b : Bool) (d : D), (rstA ρa ρ')[i]? = some (Slot.ow b d) → ρ'[i]? = some (Slot.ow true d) ∧ σ'[i]? = (vs.map some)[i]? := by
  have hl : vs.length = ρa.length := by have := I.len; rwa [List.length_map] at this
  have pin : ∀ i d, ρa[i]? = some (Slot.ow true d) → (∃ d', ρ'[i]? = some (Slot.ow true d')) ∧ σ'[i]? = (vs.map some)[i]? := fun i d e => by
    have hi : i < ρa.length := (List.getElem?_eq_some_iff.mp e).1
    obtain ⟨h1, h2⟩ := g.pin i d (by rw [List.getElem?_append_left hi]; exact e)
    exact ⟨h1, h2.trans (start_at (by omega))⟩
  have rOw : ∀ {i b d}, (rstA ρa ρ')[i]? = some (Slot.ow b d) → b = true ∧ (∃ d0, ρa[i]? = some (Slot.ow true d0)) ∧ ρ'[i]? = some (Slot.ow true d) := fun {i b d} e => by
    have hi : i < ρa.length := by
      have := (List.getElem?_eq_some_iff.mp e).1
      rwa [rstA_len] at this
    have e0 : ρa[i]? = some ρa[i] := List.getElem?_eq_getElem hi
    rcases pinnedAll_at pa e0 with ⟨d1, e1⟩ | ⟨d1, e1⟩
    · rw [e1] at e0
      rw [rstA_else e0 (fun d z => by cases z)] at e
      cases e
    · rw [e1] at e0
      obtain ⟨⟨d2, e2⟩, _⟩ := pin i d1 e0
      rw [rstA_own e0 e2] at e
      cases e
      exact ⟨rfl, ⟨d1, e0⟩, e2⟩
  have rIm : ∀ {i d}, (rstA ρa ρ')[i]? = some (Slot.imm d) → ρa[i]? = some (Slot.imm d) := fun {i d} e => by
    have hi : i < ρa.length := by
      have := (List.getElem?_eq_some_iff.mp e).1
      rwa [rstA_len] at this
    have e0 : ρa[i]? = some ρa[i] := List.getElem?_eq_getElem hi
    rcases pinnedAll_at pa e0 with ⟨d1, e1⟩ | ⟨d1, e1⟩
    · rw [e1] at e0
      rw [rstA_else e0 (fun d z => by cases z)] at e
      cases e
      exact e0
    · rw [e1] at e0
      obtain ⟨⟨d2, e2⟩, _⟩ := pin i d1 e0
      rw [rstA_own e0 e2] at e
      cases e
  have sub : ∀ a, OwnS (vs.map some) (rstA ρa ρ') a → OwnS σ' ρ' a := fun a ⟨i, b, d, e1, e2⟩ => by
    obtain ⟨_, ⟨d0, h0⟩, h1⟩ := rOw e1
    exact ⟨i, true, d, h1, by rw [(pin i d0 h0).2]; exact e2⟩
  have hM : ∀ a, MM N (vs.map some) (rstA ρa ρ') a → MM N σ' ρ' a := fun a h => h.elim .inl fun z => .inr (sub a z)
  have sh : Shape ρa (rstA ρa ρ') := by
    refine ⟨rstA_len.symm, fun i b d e => ?_, fun i e => ?_⟩
    · rcases pinnedAll_at pa e with ⟨d1, e1⟩ | ⟨d1, e1⟩
      · cases e1
      · cases e1
        obtain ⟨⟨d2, e2⟩, _⟩ := pin i d e
        exact ⟨d2, rstA_own e e2⟩
    · cases q : ρa[i]? with
      | none => rw [List.getElem?_eq_none_iff] at q ⊢; rw [rstA_len]; exact q
      | some s => exact rstA_else q fun d z => e true d (by rw [q, z])
  refine ⟨⟨⟨by rw [rstA_len]; exact I.len, g.env.dom, fun i d e => ?_, fun i b d e => ?_, fun i j b b' d d' a h1 h2 h3 h4 => ?_⟩, fun a o e n => g.fr a o e fun z => n ((own_start hl).mp z), g.dom, sh⟩, sub, fun i b d e => ?_⟩
  · obtain ⟨v, e1, r⟩ := I.imm i d (rIm e)
    refine ⟨v, e1, r.mono (fun a z => ?_) fun a o e n => g.fr a o e fun z => n (.inr ((own_start hl).mp z))⟩
    rcases hM a z with z | z
    · exact .inl (.inl z)
    · rcases g.own a z with z | z
      · exact .inl (.inr ((own_start hl).mp z))
      · exact .inr z
  · obtain ⟨_, ⟨d0, h0⟩, h1⟩ := rOw e
    obtain ⟨a, e1, n, o⟩ := g.env.ow i true d h1
    rw [(pin i d0 h0).2] at e1
    exact ⟨a, e1, n, o.mono (fun a z => .inl (hM a z)) (fun _ _ e _ => e) rfl⟩
  · obtain ⟨_, ⟨d0, k0⟩, k1⟩ := rOw h1
    obtain ⟨_, ⟨d2, k2⟩, k3⟩ := rOw h2
    exact g.env.ne i j true true d d' a k1 k3 (by rw [(pin i d0 k0).2]; exact h3) (by rw [(pin j d2 k2).2]; exact h4)
  · obtain ⟨_, ⟨d0, h0⟩, h1⟩ := rOw e
    exact ⟨h1, (pin i d0 h0).2⟩
end
section
variable {P : Program} {w : World} {K : PySem.W.Frag} {mg : Str → Option Value} {base : Heap} {G : Gx}
/-- THE RULE for a def -/
theorem fnD_ok {x qual : Str} {st : Stmt} {f : Addr} {fd : FuncData} {Nm ps : List Str} {k : Nat} {nw : Bool} {s : FS} (F : Fun K x qual st f fd) (S : FnScope Nm ps (defScope st)) (hNm : ps.length ≤ Nm.length)
    (body : ∀ (cdv : Value) (A : Around) (outer : List Env) (sh : Shared) (H : Hp) (E : XK), Room k (A.deeper (envOfC qual (defScope st) sh.heap.objs.size f cdv)) →
      DSs G (cxOf CX0 P w K mg base Nm qual (defScope st) f cdv A outer sh H E).nox (defBody st) s) :
    FnOk P w K mg base CX0 (k + 1) f fd ps (spD G nw (fnD nw ps.length (Nm.length - ps.length) s)) := by
  refine F.ok S (fun vs H Q E h => ?_) (fun cdv A outer sh H vs Q E hr h => ?_)
  · obtain ⟨N, ρ, d, ρ', I, pa, e, _⟩ := h
    unfold fnD at e
    split at e
    · rename_i hl
      have := I.len
      rw [List.length_map] at this
      omega
    · cases e
  · obtain ⟨N, ρ, d, ρ', I, pa, e, q⟩ := h
    obtain ⟨t, p, k0⟩ := (body cdv A outer sh H E hr).ex
    refine ⟨t, p, ?_⟩
    unfold fnD at e
    split at e
    · rename_i hl
      have hlv : vs.length = ρ.length := by have := I.len; rwa [List.length_map] at this
      obtain ⟨o, e1, e⟩ := Option.bind_eq_some_iff.mp e
      have es : L2.start Nm vs = vs.map some ++ List.replicate (Nm.length - ps.length) none := by unfold L2.start; rw [hlv, hl]
      rw [es]
      refine k0 N _ H _ o _ (I.start _) e1 ?_
      cases o with
      | nx ρ2 =>
        dsimp only at e
        split at e
        · cases e
        · rename_i hn
          cases e
          intro σ' H' g
          obtain ⟨ge, _, _⟩ := Go.caller I pa g
          refine q _ H' ge ?_
          cases nw with
          | true => exact (hn rfl).elim
          | false => exact .non
      | bk ρ2 => cases e
      | ct ρ2 => cases e
      | rt d2 b ρ2 =>
        dsimp only at e
        split at e
        · cases e
        · rename_i hn
          cases e
          intro σ' v H' g r
          obtain ⟨ge, sub, inr⟩ := Go.caller I pa g
          have hM : ∀ a, MM N (vs.map some) (rstA ρ ρ2) a → MM N σ' ρ2 a := fun a h => h.elim .inl fun z => .inr (sub a z)
          refine q v H' ge ?_
          -- a new thing is none of the arguments
          have fresh : ∀ p, EnvOk G (addN N p) H' σ' ρ2 → (OwnS (vs.map some ++ List.replicate (Nm.length - ps.length) none) (ρ ++ List.replicate (Nm.length - ps.length) .un) p ∨ H p = none) → H p = none := fun p J h => by
            rcases h with h | h
            · obtain ⟨i, b, d, e1, e2⟩ := (own_start hlv).mp h
              rcases pinnedAll_at pa e1 with ⟨d1, e3⟩ | ⟨d1, e3⟩
              · cases e3
              · cases e3
                have hi : i < ρ.length := (List.getElem?_eq_some_iff.mp e1).1
                obtain ⟨⟨d4, h1⟩, h2⟩ := g.pin i d (by rw [List.getElem?_append_left hi]; exact e1)
                obtain ⟨a, e5, n, _⟩ := J.ow i true d4 h1
                rw [h2, start_at (by omega), e2] at e5
                cases e5
                exact (n (.inr rfl)).elim
            · exact h
          cases nw with
          | false =>
            cases b with
            | false => exact (show Rep G _ _ _ _ from r).mono (fun a z => .inl (hM a z)) fun _ _ e _ => e
            | true =>
              obtain ⟨p, rfl, J, o, hp⟩ := r
              have hp0 := fresh p J hp
              refine (o.mono (M' := MM N (vs.map some) (rstA ρ ρ2)) (fun a z => .inl (.inl (hM a z))) (fun _ _ e _ => e) rfl).rep ?_
              intro z
              rcases z with z | z
              · exact I.dom p z hp0
              · obtain ⟨i, b, d, e1, e2⟩ := sub p z
                obtain ⟨a, e5, n, _⟩ := J.ow i b d e1
                rw [e2] at e5
                cases e5
                exact n (.inr rfl)
          | true =>
            cases b with
            | false => exact (hn ⟨rfl, rfl⟩).elim
            | true =>
              obtain ⟨p, rfl, J, o, hp⟩ := r
              have hp0 := fresh p J hp
              refine ⟨p, rfl, hp0, ?_, o.mono (fun a z => .inl (z.elim (fun z => .inl (hM a z)) .inr)) (fun _ _ e _ => e) rfl⟩
              have hM2 : ∀ a, MM (addN N p) (vs.map some) (rstA ρ ρ2) a → MM (addN N p) σ' ρ2 a := fun a h => h.elim .inl fun z => .inr (sub a z)
              refine ⟨ge.env.len, J.dom, fun i d e => ?_, fun i b d e => ?_, ge.env.ne⟩
              · obtain ⟨v, e1, r1⟩ := ge.env.imm i d e
                refine ⟨v, e1, ?_⟩
                obtain ⟨v0, e0, r0⟩ := I.imm i d (ge.shape.imm e)
                rw [e0] at e1
                cases e1
                refine r0.mono (fun a z => ?_) fun a o e n => ge.fr a o e fun z => n (.inr z)
                rw [mm_add, ge.mm] at z
                exact z.elim .inl fun e => .inr (by rw [e]; exact hp0)
              · obtain ⟨a, e1, n1, o1⟩ := ge.env.ow i b d e
                obtain ⟨k1, k2⟩ := inr i b d e
                obtain ⟨a2, e2, n2, o2⟩ := J.ow i true d k1
                rw [k2, e1] at e2
                cases e2
                exact ⟨a, e1, n2, o2.mono (fun a z => .inl (hM2 a z)) (fun _ _ e _ => e) rfl⟩
    · cases e
end
end DL

set_option maxRecDepth 100000
namespace DL
open PySem PySem.Spec PyProof.Rows L2
section
variable {G : Gx} {M N : Addr → Prop} {H H' H1 : Hp} {vs : List V} {ds : List D} {σ : L2.St} {ρ : Ev}
theorem imm_get {ds : List D} {i : Nat} {s : Slot} (h : (ds.map Slot.imm)[i]? = some s) : ∃ d, ds[i]? = some d ∧ s = .imm d := by
  rw [List.getElem?_map] at h
  cases q : ds[i]? with
  | none => rw [q] at h; cases h
  | some d => rw [q] at h; cases h; exact ⟨d, rfl, rfl⟩
theorem no_own {σ : L2.St} {a : Addr} : ¬ OwnS σ (ds.map Slot.imm) a := fun ⟨i, b, d, e, _⟩ => by
  obtain ⟨d', _, z⟩ := imm_get e
  cases z
theorem envV (hm : DomM M H) (r : RepL G M H vs ds) : EnvOk G M H (vs.map some) (ds.map Slot.imm) := by
  refine ⟨by rw [List.length_map, List.length_map]; exact r.length, hm, fun i d h => ?_, fun i b d h => ?_, fun i j b b' d d' a h => ?_⟩
  · obtain ⟨d', e, z⟩ := imm_get h
    cases z
    obtain ⟨v, e1, r1⟩ := r.get e
    exact ⟨v, by rw [List.getElem?_map, e1]; rfl, r1.mono (fun a z => .inl (z.elim id fun z => (no_own z).elim)) fun _ _ e _ => e⟩
  · obtain ⟨d', _, z⟩ := imm_get h
    cases z
  · obtain ⟨d', _, z⟩ := imm_get h
    cases z
theorem pinned_imm : pinnedAll (ds.map Slot.imm) = true := List.all_eq_true.mpr fun s hs => by
  obtain ⟨d, _, e⟩ := List.mem_map.mp hs
  subst e
  rfl
theorem GoE.sameV {ρ' : Ev} (g : GoE G M σ (ds.map Slot.imm) H ρ' H') : Same H H' := fun a o e => g.fr a o e no_own
/-- data without parts -/
def scal : D → Bool
  | .non | .bl _ | .int _ | .str _ => true
  | _ => false
theorem Rep.scal {M M' : Addr → Prop} {H H' : Hp} {v : V} {d : D} (h : scal d = true) (r : Rep G M H v d) : Rep G M' H' v d := by
  cases d with
  | non => cases r; exact .non
  | bl b => cases r; exact .bl b
  | int i => cases r; exact .int i
  | str x => cases r; exact .str x
  | _ => cases h
end
section
variable {G : Gx} {X : Cx} {e : Expr} {es : List Expr} {h : FA} {m : FD} {x : Str} {p pos : Pos} {k : Nat} {f : Addr} {fd : FuncData} {ps : List Str} {nw : Bool}
/-- f(values) -/
def xCallV (m : FD) (h : FA) : FE := fun ρ => (h ρ).bind fun z => (vals z.1).bind fun ds => (m (ds.map .imm)).bind fun y => some (.val y.1, z.2)
def xCallVN (m : FD) (h : FA) : FN := fun ρ => (h ρ).bind fun z => (vals z.1).bind fun ds => (m (ds.map .imm)).bind fun y => some (y.1, z.2)
/-- f(values, own things to be read), a scalar comes back -/
def xCallR (m : FD) (h : FA) : FE := fun ρ => (h ρ).bind fun z => (rdAll z.2 z.1).bind fun ds => (m (ds.map .imm)).bind fun y => if scal y.1 then some (.val y.1, z.2) else none
theorem DE.callV (F : FnOk X.prog X.w X.K X.mg X.base CX0 k f fd ps (spD G false m)) (hr : Room k X.A) (hg : Gl X x) (hm : X.mg x = some (.ref f)) (hk : PySem.W.keepIn X.K (.ref f) = true) (hb : Binds X.K fd ps []) (ha : DA G X (e :: es) h)
    (hd : (x == ("__debug__" : Str)) = false) (he : starEach (e :: es) X.env = (false, eval e X.env) :: starEach es X.env) (hpl : (backTo pos (starEach es X.env)).any (·.1) = false) :
    DE G X (.Call (.Name x p) (e :: es) [] pos) (xCallV m h) := by
  obtain ⟨t, pt, q⟩ := ha.ex
  refine ⟨_, pe_call F hr hg hm hk hb .nil pass0 pt hd he hpl, fun N σ H ρ r ρ' Q I e w => ?_⟩
  obtain ⟨z, e1, e⟩ := Option.bind_eq_some_iff.mp e
  obtain ⟨ds, e2, e⟩ := Option.bind_eq_some_iff.mp e
  obtain ⟨y, e3, e⟩ := Option.bind_eq_some_iff.mp e
  cases e
  refine q N σ H ρ z.1 z.2 _ I e1 fun vs H1 g r1 => ?_
  have rl := r1.repL e2
  show spD G false m (vs ++ []) H1 Q E0
  rw [List.append_nil]
  refine ⟨MM N σ z.2, ds.map .imm, y.1, y.2, envV g.env.domM rl, pinned_imm, e3, fun v H' g' rv => ?_⟩
  refine w v H' (g.trans (GoE.grow g.env g'.sameV)) ?_
  exact (show Rep G _ _ _ _ from rv).mono (fun a z => .inl (.inl z)) fun _ _ e _ => e
theorem DN.callV (F : FnOk X.prog X.w X.K X.mg X.base CX0 k f fd ps (spD G true m)) (hr : Room k X.A) (hg : Gl X x) (hm : X.mg x = some (.ref f)) (hk : PySem.W.keepIn X.K (.ref f) = true) (hb : Binds X.K fd ps []) (ha : DA G X (e :: es) h)
    (hd : (x == ("__debug__" : Str)) = false) (he : starEach (e :: es) X.env = (false, eval e X.env) :: starEach es X.env) (hpl : (backTo pos (starEach es X.env)).any (·.1) = false) :
    DN G X (.Call (.Name x p) (e :: es) [] pos) (xCallVN m h) := by
  obtain ⟨t, pt, q⟩ := ha.ex
  refine ⟨_, pe_call F hr hg hm hk hb .nil pass0 pt hd he hpl, fun N σ H ρ r ρ' Q I e w => ?_⟩
  obtain ⟨z, e1, e⟩ := Option.bind_eq_some_iff.mp e
  obtain ⟨ds, e2, e⟩ := Option.bind_eq_some_iff.mp e
  obtain ⟨y, e3, e⟩ := Option.bind_eq_some_iff.mp e
  cases e
  refine q N σ H ρ z.1 z.2 _ I e1 fun vs H1 g r1 => ?_
  have rl := r1.repL e2
  show spD G true m (vs ++ []) H1 Q E0
  rw [List.append_nil]
  refine ⟨MM N σ z.2, ds.map .imm, y.1, y.2, envV g.env.domM rl, pinned_imm, e3, fun v H' g' rv => ?_⟩
  obtain ⟨p, rfl, hp, J, o⟩ := rv
  obtain ⟨gn, hp0⟩ := g.newN g'.sameV hp o.here
  refine w p H' gn hp0 (o.mono (fun a z => .inl (z.elim (fun z => .inl (.inl z)) .inr)) (fun _ _ e _ => e) rfl)
theorem DE.callR (F : FnOk X.prog X.w X.K X.mg X.base CX0 k f fd ps (spD G false m)) (hr : Room k X.A) (hg : Gl X x) (hm : X.mg x = some (.ref f)) (hk : PySem.W.keepIn X.K (.ref f) = true) (hb : Binds X.K fd ps []) (ha : DA G X (e :: es) h)
    (hd : (x == ("__debug__" : Str)) = false) (he : starEach (e :: es) X.env = (false, eval e X.env) :: starEach es X.env) (hpl : (backTo pos (starEach es X.env)).any (·.1) = false) :
    DE G X (.Call (.Name x p) (e :: es) [] pos) (xCallR m h) := by
  obtain ⟨t, pt, q⟩ := ha.ex
  refine ⟨_, pe_call F hr hg hm hk hb .nil pass0 pt hd he hpl, fun N σ H ρ r ρ' Q I e w => ?_⟩
  obtain ⟨z, e1, e⟩ := Option.bind_eq_some_iff.mp e
  obtain ⟨ds, e2, e⟩ := Option.bind_eq_some_iff.mp e
  obtain ⟨y, e3, e⟩ := Option.bind_eq_some_iff.mp e
  split at e
  · rename_i hs
    cases e
    refine q N σ H ρ z.1 z.2 _ I e1 fun vs H1 g r1 => ?_
    have rt := r1.repTL g.env e2
    show spD G false m (vs ++ []) H1 Q E0
    rw [List.append_nil]
    -- what is handed over is not forbidden for the while
    have rl : RepL G (fun a => MM N σ z.2 a ∧ V.ref a ∉ vs) H1 vs ds := by
      have go : ∀ {us : List V} {cs : List D}, (∀ u ∈ us, u ∈ vs) → RepTL G (MM N σ z.2) H1 us cs → RepL G (fun a => MM N σ z.2 a ∧ V.ref a ∉ vs) H1 us cs := by
        intro us cs hu hr
        induction hr with
        | nil => exact .nil
        | cons h t ih =>
          refine .cons ?_ (ih fun u hm => hu u (List.mem_cons_of_mem _ hm))
          rcases h with h | ⟨a, rfl, h⟩
          · exact h.mono (fun a z => .inl z.1) fun _ _ e _ => e
          · exact (h.mono (M' := fun a => MM N σ z.2 a ∧ V.ref a ∉ vs) (fun a z => .inl z.1) (fun _ _ e _ => e) rfl).rep fun q => q.2 (hu _ List.mem_cons_self)
      exact go (fun u h => h) rt
    refine ⟨_, ds.map .imm, y.1, y.2, envV (fun a z => g.env.domM a z.1) rl, pinned_imm, e3, fun v H' g' rv => ?_⟩
    exact w v H' (g.trans (GoE.grow g.env g'.sameV)) ((show Rep G _ _ _ _ from rv).scal hs)
  · cases e

/-! ### a call that changes its first argument, an own thing of the caller -/
def xCallB (m : FD) (h : FA) : FE := fun ρ => (h ρ).bind fun z => match z.1 with
  | .own j :: rs => match z.2[j]? with
    | some (.ow b d) => (vals rs).bind fun ds => (m (.ow true d :: ds.map .imm)).bind fun y => match y.2 with
      | .ow true d' :: _ => some (.val y.1, z.2.set j (.ow b d'))
      | _ => none
    | _ => none
  | _ => none
def xCallBN (m : FD) (h : FA) : FN := fun ρ => (h ρ).bind fun z => match z.1 with
  | .own j :: rs => match z.2[j]? with
    | some (.ow b d) => (vals rs).bind fun ds => (m (.ow true d :: ds.map .imm)).bind fun y => match y.2 with
      | .ow true d' :: _ => some (y.1, z.2.set j (.ow b d'))
      | _ => none
    | _ => none
  | _ => none
theorem own_one {σ : L2.St} {a c : Addr} {d : D} {ds : List D} (h : OwnS (some (V.ref a) :: σ) (.ow true d :: ds.map .imm) c) : c = a := by
  obtain ⟨i, b, d', e1, e2⟩ := h
  cases i with
  | zero => simp at e2; exact e2.symm
  | succ i =>
    rw [List.getElem?_cons_succ] at e1
    obtain ⟨_, _, z⟩ := imm_get e1
    cases z
/-- the callee's slots -/
theorem envB {N : Addr → Prop} {H : Hp} {σ : L2.St} {ρ : Ev} {j : Nat} {b : Bool} {d : D} {a : Addr} {vs : List V} {ds : List D} (I : EnvOk G N H σ ρ) (hj : ρ[j]? = some (.ow b d)) (ha : σ[j]? = some (some (V.ref a))) (r : RepL G (MM N σ ρ) H vs ds) :
    EnvOk G (fun c => MM N σ ρ c ∧ c ≠ a) H ((V.ref a :: vs).map some) (.ow true d :: ds.map .imm) := by
  obtain ⟨a', e, n, o⟩ := I.ow j b d hj
  rw [ha] at e
  cases e
  have hM : ∀ c, MM (fun c => MM N σ ρ c ∧ c ≠ a) ((V.ref a :: vs).map some) (.ow true d :: ds.map .imm) c → MM N σ ρ c := fun c z => by
    rcases z with z | z
    · exact z.1
    · rw [own_one z]; exact .inr ⟨j, b, d, hj, ha⟩
  refine ⟨by simp [r.length], fun c z => I.domM c z.1, fun i d' h => ?_, fun i b' d' h => ?_, fun i l b1 b2 d1 d2 c h1 h2 h3 h4 => ?_⟩
  · cases i with
    | zero => simp at h
    | succ i =>
      rw [List.getElem?_cons_succ] at h
      obtain ⟨d2, e, z⟩ := imm_get h
      cases z
      obtain ⟨v, e1, r1⟩ := r.get e
      exact ⟨v, by simp [e1], r1.mono (fun c z => .inl (hM c z)) fun _ _ e _ => e⟩
  · cases i with
    | zero =>
      simp at h
      obtain ⟨rfl, rfl⟩ := h
      exact ⟨a, rfl, fun z => z.2 rfl, o.mono (fun c z => .inl (hM c z)) (fun _ _ e _ => e) rfl⟩
    | succ i =>
      rw [List.getElem?_cons_succ] at h
      obtain ⟨d2, e, z⟩ := imm_get h
      cases z
  · cases i with
    | succ i =>
      rw [List.getElem?_cons_succ] at h1
      obtain ⟨d2, e, z⟩ := imm_get h1
      cases z
    | zero =>
      cases l with
      | zero => rfl
      | succ l =>
        rw [List.getElem?_cons_succ] at h2
        obtain ⟨d2, e, z⟩ := imm_get h2
        cases z
theorem pinned_B {d : D} {ds : List D} : pinnedAll (.ow true d :: ds.map .imm) = true := by
  have := pinned_imm (ds := ds)
  unfold pinnedAll at this ⊢
  simp only [List.all_cons, this, Bool.and_true]
/-- .. behind the call -/
theorem goB {N : Addr → Prop} {H H' : Hp} {σ : L2.St} {ρ : Ev} {j : Nat} {b : Bool} {d d' : D} {a : Addr} {vs : List V} {ds : List D} {r : List Slot} (I : EnvOk G N H σ ρ) (hj : ρ[j]? = some (.ow b d)) (ha : σ[j]? = some (some (V.ref a)))
    (g : GoE G (fun c => MM N σ ρ c ∧ c ≠ a) ((V.ref a :: vs).map some) (.ow true d :: ds.map .imm) H (.ow true d' :: r) H') :
    GoE G N σ ρ H (ρ.set j (.ow b d')) H' ∧ MM (fun c => MM N σ ρ c ∧ c ≠ a) ((V.ref a :: vs).map some) (.ow true d' :: r) = MM N σ (ρ.set j (.ow b d')) := by
  have hl : j < ρ.length := (List.getElem?_eq_some_iff.mp hj).1
  have own : OwnS σ ρ a := ⟨j, b, d, hj, ha⟩
  have sh : Shape ρ (ρ.set j (.ow b d')) := by
    refine ⟨by rw [List.length_set], fun i b2 d2 e => ?_, fun i hn => ?_⟩
    · by_cases hi : j = i
      · subst hi
        rw [hj] at e
        cases e
        exact ⟨d', List.getElem?_set_self hl⟩
      · exact ⟨d2, by rw [List.getElem?_set_ne hi]; exact e⟩
    · by_cases hi : j = i
      · subst hi
        exact (hn b d hj).elim
      · exact List.getElem?_set_ne hi
  have mm0 := sh.mm N σ
  have mmc : MM (fun c => MM N σ ρ c ∧ c ≠ a) ((V.ref a :: vs).map some) (.ow true d' :: r) = MM N σ ρ := by
    rw [g.mm]
    funext c
    apply propext
    constructor
    · rintro (z | z)
      · exact z.1
      · rw [own_one z]; exact .inr own
    · intro z
      by_cases hc : c = a
      · exact .inr (by rw [hc]; exact ⟨0, true, d, rfl, rfl⟩)
      · exact .inl ⟨z, hc⟩
  have frm : ∀ c o, H c = some o → c ≠ a → H' c = some o := fun c o e n => g.fr c o e fun z => n (own_one z)
  have hh : ∀ c o, H c = some o → ¬ MM N σ ρ c → H' c = some o := fun c o e n => frm c o e fun z => n (by rw [z]; exact .inr own)
  refine ⟨⟨⟨sh.len ▸ I.len, fun c z => g.dom c (I.dom c z), fun i d2 e => ?_, fun i b2 d2 e => ?_, fun i l b1 b2 d1 d2 c h1 h2 h3 h4 => ?_⟩, fun c o e n => frm c o e fun z => n (by rw [z]; exact own), g.dom, sh⟩, mmc.trans mm0.symm⟩
  · rw [mm0]
    obtain ⟨v, e1, r1⟩ := I.imm i d2 (sh.imm e)
    exact ⟨v, e1, r1.mono (fun c z => .inl z) hh⟩
  · rw [mm0]
    rcases set_get e with ⟨rfl, e2, _⟩ | ⟨hi, e⟩
    · cases e2
      obtain ⟨a2, e3, n2, _⟩ := I.ow i b d hj
      rw [ha] at e3
      cases e3
      obtain ⟨a4, e4, n4, o4⟩ := g.env.ow 0 true d' rfl
      have : a4 = a := by simp at e4; exact e4.symm
      subst this
      rw [mmc] at o4
      exact ⟨_, ha, n2, o4⟩
    · obtain ⟨a2, e3, n2, o2⟩ := I.ow i b2 d2 e
      have hne : a2 ≠ a := fun z => hi (I.ne i j b2 b d2 d a e hj (by rw [← z]; exact e3) ha)
      refine ⟨a2, e3, n2, o2.mono (fun c z => .inl z) hh ?_⟩
      cases q : H a2 with
      | none => exact absurd q o2.here
      | some o => exact frm a2 o q hne
  · obtain ⟨d3, q1⟩ := sh.ow' h1
    obtain ⟨d4, q2⟩ := sh.ow' h2
    exact I.ne i l b1 b2 d3 d4 c q1 q2 h3 h4
theorem DE.callB1 (F : FnOk X.prog X.w X.K X.mg X.base CX0 k f fd ps (spD G false m)) (hr : Room k X.A) (hg : Gl X x) (hm : X.mg x = some (.ref f)) (hk : PySem.W.keepIn X.K (.ref f) = true) (hb : Binds X.K fd ps []) (ha : DA G X (e :: es) h)
    (hd : (x == ("__debug__" : Str)) = false) (he : starEach (e :: es) X.env = (false, eval e X.env) :: starEach es X.env) (hpl : (backTo pos (starEach es X.env)).any (·.1) = false) :
    DE G X (.Call (.Name x p) (e :: es) [] pos) (xCallB m h) := by
  obtain ⟨t, pt, q⟩ := ha.ex
  refine ⟨_, pe_call F hr hg hm hk hb .nil pass0 pt hd he hpl, fun N σ H ρ r ρ' Q I e w => ?_⟩
  obtain ⟨⟨rs, ρ1⟩, e1, e⟩ := Option.bind_eq_some_iff.mp e
  split at e
  · rename_i j rs2 hrs
    dsimp only at hrs
    subst hrs
    split at e
    · rename_i b d hj
      dsimp only at hj e
      obtain ⟨ds, e2, e⟩ := Option.bind_eq_some_iff.mp e
      obtain ⟨⟨y, ys⟩, e3, e⟩ := Option.bind_eq_some_iff.mp e
      dsimp only at e
      split at e
      · rename_i d' rest
        cases e
        refine q N σ H ρ _ ρ1 _ I e1 fun vs H1 g r1 => ?_
        cases r1 with
        | cons hv hr =>
          rename_i v0 vs0
          obtain ⟨hv1, _⟩ := hv
          obtain ⟨a, ea, _, _⟩ := g.env.ow j b d hj
          rw [hv1] at ea
          cases ea
          have rl := hr.repL e2
          show spD G false m ((V.ref a :: vs0) ++ []) H1 Q E0
          rw [List.append_nil]
          refine ⟨_, _, _, _, envB g.env hj hv1 rl, pinned_B, e3, fun v H' g' rv => ?_⟩
          obtain ⟨g2, mm⟩ := goB g.env hj hv1 g'
          refine w v H' (g.trans g2) ?_
          have rv : Rep G _ H' v _ := rv
          rw [mm] at rv
          exact rv
      · cases e
    · cases e
  · cases e
theorem DN.callB1 (F : FnOk X.prog X.w X.K X.mg X.base CX0 k f fd ps (spD G true m)) (hr : Room k X.A) (hg : Gl X x) (hm : X.mg x = some (.ref f)) (hk : PySem.W.keepIn X.K (.ref f) = true) (hb : Binds X.K fd ps []) (ha : DA G X (e :: es) h)
    (hd : (x == ("__debug__" : Str)) = false) (he : starEach (e :: es) X.env = (false, eval e X.env) :: starEach es X.env) (hpl : (backTo pos (starEach es X.env)).any (·.1) = false) :
    DN G X (.Call (.Name x p) (e :: es) [] pos) (xCallBN m h) := by
  obtain ⟨t, pt, q⟩ := ha.ex
  refine ⟨_, pe_call F hr hg hm hk hb .nil pass0 pt hd he hpl, fun N σ H ρ r ρ' Q I e w => ?_⟩
  obtain ⟨⟨rs, ρ1⟩, e1, e⟩ := Option.bind_eq_some_iff.mp e
  split at e
  · rename_i j rs2 hrs
    dsimp only at hrs
    subst hrs
    split at e
    · rename_i b d hj
      dsimp only at hj e
      obtain ⟨ds, e2, e⟩ := Option.bind_eq_some_iff.mp e
      obtain ⟨⟨y, ys⟩, e3, e⟩ := Option.bind_eq_some_iff.mp e
      dsimp only at e
      split at e
      · rename_i d' rest
        cases e
        refine q N σ H ρ _ ρ1 _ I e1 fun vs H1 g r1 => ?_
        cases r1 with
        | cons hv hr =>
          rename_i v0 vs0
          obtain ⟨hv1, _⟩ := hv
          obtain ⟨a, ea, _, _⟩ := g.env.ow j b d hj
          rw [hv1] at ea
          cases ea
          have rl := hr.repL e2
          show spD G true m ((V.ref a :: vs0) ++ []) H1 Q E0
          rw [List.append_nil]
          refine ⟨_, _, _, _, envB g.env hj hv1 rl, pinned_B, e3, fun v H' g' rv => ?_⟩
          obtain ⟨p, rfl, hp, J, o⟩ := rv
          obtain ⟨g2, mm⟩ := goB g.env hj hv1 g'
          rw [mm] at o
          refine w p H' ?_ (back_none g.dom hp) o
          have gg := g.trans g2
          refine ⟨?_, gg.fr, gg.dom, gg.shape⟩
          -- the caller's slots avoid p
          have hM : ∀ c, MM (addN N p) σ (ρ1.set j (.ow b d')) c → MM N σ ρ1 c ∨ H1 c = none := fun c z => by
            rw [mm_add] at z
            rcases z with z | z
            · rw [g2.shape.mm] at z; exact .inl z
            · exact .inr (by rw [z]; exact hp)
          refine ⟨gg.env.len, fun c z => z.elim (gg.env.dom c) fun e => by rw [e]; exact o.here, fun i d2 e => ?_, fun i b2 d2 e => ?_, gg.env.ne⟩
          · obtain ⟨v, k1, k2⟩ := gg.env.imm i d2 e
            obtain ⟨v', k3, k4⟩ := g.env.imm i d2 (g2.shape.imm e)
            rw [k1] at k3
            cases k3
            exact ⟨v, k1, k4.mono hM fun c o e n => g2.fr c o e fun z => n (.inr z)⟩
          · obtain ⟨c, k1, k2, k3⟩ := gg.env.ow i b2 d2 e
            have hcp : c ≠ p := fun z => by
              obtain ⟨d5, k6⟩ := g2.shape.ow' e
              obtain ⟨c2, k7, _, k8⟩ := g.env.ow i b2 d5 k6
              rw [k1] at k7
              cases k7
              exact k8.here (by rw [z]; exact hp)
            refine ⟨c, k1, fun z => z.elim k2 hcp, ?_⟩
            rcases set_get e with ⟨rfl, e5, _⟩ | ⟨hi, e5⟩
            · cases e5
              obtain ⟨a4, e6, n4, o4⟩ := J.ow 0 true d' rfl
              have e7 : a4 = a := by simp at e6; exact e6.symm
              subst e7
              rw [hv1] at k1
              cases k1
              refine o4.mono (fun c z => .inl ?_) (fun _ _ e _ => e) rfl
              rw [mm_add] at z ⊢
              rcases z with z | z
              · rw [← mm] at z; exact .inl z
              · exact .inr z
            · obtain ⟨c2, k7, _, k8⟩ := g.env.ow i b2 d2 e5
              rw [k1] at k7
              cases k7
              refine k8.mono hM (fun c o e n => g2.fr c o e fun z => n (.inr z)) ?_
              have hca : c ≠ a := fun z => hi (g.env.ne i j b2 b d2 d a e5 hj (by rw [← z]; exact k1) hv1)
              cases q : H1 c with
              | none => exact absurd q k8.here
              | some o => exact g'.fr c o q fun z => hca (own_one z)
      · cases e
    · cases e
  · cases e
end
end DL

set_option maxRecDepth 100000
namespace DL
open PySem PySem.Spec PyProof.Rows L2
section
variable {G : Gx} {X : Cx}
theorem RepTL.one {M : Addr → Prop} {H : Hp} {vs : List V} {d : D} (h : RepTL G M H vs [d]) : ∃ v, vs = [v] ∧ RepT G M H v d := by
  cases h with
  | cons h t => cases t; exact ⟨_, rfl, h⟩
theorem RepTL.two {M : Addr → Prop} {H : Hp} {vs : List V} {d e : D} (h : RepTL G M H vs [d, e]) : ∃ v u, vs = [v, u] ∧ RepT G M H v d ∧ RepT G M H u e := by
  cases h with
  | cons h t =>
    obtain ⟨u, rfl, r⟩ := t.one
    exact ⟨_, _, rfl, h, r⟩
def dLen : List D → Option D
  | [.lst xs] => some (.int xs.length)
  | [.tup xs] => some (.int xs.length)
  | [.frz xs] => some (.int xs.length)
  | _ => none
theorem b_len (hK : G.K = X.K) : VCall G X (.builtin "len") dLen := by
  refine ⟨_, call_len, fun M H vs ds d Q hm r e q => ?_⟩
  unfold dLen at e
  split at e
  · cases e
    obtain ⟨v, rfl, rt⟩ := r.one
    obtain ⟨a, xs, rfl, h1, h2⟩ := rt.lst
    exact ⟨_, _, rfl, .inl ⟨xs, .of h1, rfl⟩, by rw [h2.length]; exact q _ H (.refl H) (.int _)⟩
  · cases e
    obtain ⟨v, rfl, rt⟩ := r.one
    obtain ⟨a, o, xs, rfl, h1, h0, h2⟩ := rt.tup
    exact ⟨_, _, rfl, .inr ⟨xs, .inl (.inr ⟨o, h1⟩), rfl⟩, by rw [h2.length]; exact q _ H (.refl H) (.int _)⟩
  · cases e
    obtain ⟨v, rfl, rt⟩ := r.one
    obtain ⟨a, xs, rfl, h1, h2⟩ := rt.frz
    exact ⟨_, _, rfl, .inl ⟨xs, hK ▸ h1, rfl⟩, by rw [h2.length]; exact q _ H (.refl H) (.int _)⟩
  · cases e
def dAbs : List D → Option D
  | [.int i] => some (.int (if i < 0 then -i else i))
  | _ => none
theorem b_abs : VCall G X (.builtin "abs") dAbs := by
  refine ⟨_, call_abs, fun M H vs ds d Q hm r e q => ?_⟩
  unfold dAbs at e
  split at e
  · cases e
    obtain ⟨v, rfl, rt⟩ := r.one
    exact ⟨_, by rw [rt.int], q _ H (.refl H) (.int _)⟩
  · cases e
def dInt : List D → Option D
  | [.int i] => some (.int i)
  | [.bl b] => some (.int (if b then 1 else 0))
  | _ => none
theorem b_int : VCall G X (.type "int") dInt := by
  refine ⟨_, call_int1, fun M H vs ds d Q hm r e q => ?_⟩
  unfold dInt at e
  split at e
  · cases e
    obtain ⟨v, rfl, rt⟩ := r.one
    exact .inl ⟨_, by rw [rt.int], q _ H (.refl H) (.int _)⟩
  · cases e
    obtain ⟨v, rfl, rt⟩ := r.one
    exact .inr ⟨_, by rw [rt.bl], q _ H (.refl H) (.int _)⟩
  · cases e
def intsOf : List D → Option (List Int)
  | [] => some []
  | .int i :: ds => (intsOf ds).bind fun ns => some (i :: ns)
  | _ => none
theorem intsOf_map : ∀ ns : List Int, intsOf (ns.map D.int) = some ns
  | [] => rfl
  | n :: ns => by simp [intsOf, intsOf_map ns]
theorem intsOf_eq : ∀ {ds : List D} {ns : List Int}, intsOf ds = some ns → ds = ns.map D.int
  | [], ns, h => by cases h; rfl
  | .int i :: ds, ns, h => by
    unfold intsOf at h
    obtain ⟨ms, e, h⟩ := Option.bind_eq_some_iff.mp h
    cases h
    rw [List.map_cons, ← intsOf_eq e]
  | .non :: _, _, h => by simp [intsOf] at h
  | .bl _ :: _, _, h => by simp [intsOf] at h
  | .str _ :: _, _, h => by simp [intsOf] at h
  | .tup _ :: _, _, h => by simp [intsOf] at h
  | .lst _ :: _, _, h => by simp [intsOf] at h
  | .obj _ _ :: _, _, h => by simp [intsOf] at h
  | .dct _ :: _, _, h => by simp [intsOf] at h
  | .iset _ :: _, _, h => by simp [intsOf] at h
  | .frz _ :: _, _, h => by simp [intsOf] at h
theorem RepT.ints {M : Addr → Prop} {H : Hp} {v : V} {ds : List D} {ns : List Int} (rt : RepT G M H v (.lst ds)) (e : intsOf ds = some ns) : ∃ a, v = .ref a ∧ H a = some (.lst (ns.map V.int)) := by
  obtain ⟨a, xs, rfl, h1, h2⟩ := rt.lst
  rw [intsOf_eq e] at h2
  rw [h2.ints_of] at h1
  exact ⟨a, rfl, h1⟩
theorem RepT.intsT {M : Addr → Prop} {H : Hp} {v : V} {ds : List D} {ns : List Int} (rt : RepT G M H v (.tup ds)) (e : intsOf ds = some ns) : ∃ a o, v = .ref a ∧ H a = some (.frz o (.tup (ns.map V.int))) ∧ o.dict = none := by
  obtain ⟨a, o, xs, rfl, h1, h0, h2⟩ := rt.tup
  rw [intsOf_eq e] at h2
  rw [h2.ints_of] at h1
  exact ⟨a, o, rfl, h1, h0⟩
def dMax2 : List D → Option D
  | [.int i, .int j] => some (.int (if j > i then j else i))
  | _ => none
def dMin2 : List D → Option D
  | [.int i, .int j] => some (.int (if j < i then j else i))
  | _ => none
theorem b_max2 (hc : X.calm = true) : VCall G X (.builtin "max") dMax2 := by
  refine ⟨_, call_max2 hc, fun M H vs ds d Q hm r e q => ?_⟩
  unfold dMax2 at e
  split at e
  · cases e
    obtain ⟨v, u, rfl, rt, ru⟩ := r.two
    exact ⟨_, _, by rw [rt.int, ru.int], q _ H (.refl H) (.int _)⟩
  · cases e
theorem b_min2 (hc : X.calm = true) : VCall G X (.builtin "min") dMin2 := by
  refine ⟨_, call_min2 hc, fun M H vs ds d Q hm r e q => ?_⟩
  unfold dMin2 at e
  split at e
  · cases e
    obtain ⟨v, u, rfl, rt, ru⟩ := r.two
    exact ⟨_, _, by rw [rt.int, ru.int], q _ H (.refl H) (.int _)⟩
  · cases e
def dSum : List D → Option D
  | [.lst ds] => (intsOf ds).bind fun ns => some (.int ns.sum)
  | _ => none
theorem b_sum (hc : X.calm = true) : VCall G X (.builtin "sum") dSum := by
  refine ⟨_, cr_sum hc, fun M H vs ds d Q hm r e q => ?_⟩
  unfold dSum at e
  split at e
  · obtain ⟨ns, e1, e⟩ := Option.bind_eq_some_iff.mp e
    cases e
    obtain ⟨v, rfl, rt⟩ := r.one
    obtain ⟨a, rfl, h1⟩ := rt.ints e1
    exact ⟨a, ns, rfl, .of h1, q _ H (.refl H) (.int _)⟩
  · cases e
/-- the least, the greatest of ints -/
def minL : List Int → Int
  | [] => 0
  | x :: xs => xs.foldl min x
def maxL : List Int → Int
  | [] => 0
  | x :: xs => xs.foldl max x
theorem foldl_min : ∀ (xs : List Int) (x : Int), (xs.foldl min x = x ∨ xs.foldl min x ∈ xs) ∧ xs.foldl min x ≤ x ∧ ∀ y ∈ xs, xs.foldl min x ≤ y
  | [], x => ⟨.inl rfl, Int.le_refl _, fun y h => by simp at h⟩
  | z :: xs, x => by
    obtain ⟨h1, h2, h3⟩ := foldl_min xs (min x z)
    rw [List.foldl_cons]
    refine ⟨?_, by omega, fun y hy => ?_⟩
    · rcases h1 with h1 | h1
      · rw [h1]
        by_cases hz : x ≤ z
        · exact .inl (by omega)
        · exact .inr (by rw [show min x z = z by omega]; exact List.mem_cons_self)
      · exact .inr (List.mem_cons_of_mem _ h1)
    · rcases List.mem_cons.mp hy with rfl | hy
      · omega
      · exact h3 y hy
theorem foldl_max : ∀ (xs : List Int) (x : Int), (xs.foldl max x = x ∨ xs.foldl max x ∈ xs) ∧ x ≤ xs.foldl max x ∧ ∀ y ∈ xs, y ≤ xs.foldl max x
  | [], x => ⟨.inl rfl, Int.le_refl _, fun y h => by simp at h⟩
  | z :: xs, x => by
    obtain ⟨h1, h2, h3⟩ := foldl_max xs (max x z)
    rw [List.foldl_cons]
    refine ⟨?_, by omega, fun y hy => ?_⟩
    · rcases h1 with h1 | h1
      · rw [h1]
        by_cases hz : z ≤ x
        · exact .inl (by omega)
        · exact .inr (by rw [show max x z = z by omega]; exact List.mem_cons_self)
      · exact .inr (List.mem_cons_of_mem _ h1)
    · rcases List.mem_cons.mp hy with rfl | hy
      · omega
      · exact h3 y hy
theorem minL_spec {xs : List Int} (h : xs ≠ []) : minL xs ∈ xs ∧ ∀ y ∈ xs, minL xs ≤ y := by
  cases xs with
  | nil => exact (h rfl).elim
  | cons x xs =>
    obtain ⟨h1, h2, h3⟩ := foldl_min xs x
    refine ⟨?_, fun y hy => ?_⟩
    · rcases h1 with h1 | h1
      · exact List.mem_cons.mpr (.inl h1)
      · exact List.mem_cons_of_mem _ h1
    · rcases List.mem_cons.mp hy with rfl | hy
      · exact h2
      · exact h3 y hy
theorem maxL_spec {xs : List Int} (h : xs ≠ []) : maxL xs ∈ xs ∧ ∀ y ∈ xs, y ≤ maxL xs := by
  cases xs with
  | nil => exact (h rfl).elim
  | cons x xs =>
    obtain ⟨h1, h2, h3⟩ := foldl_max xs x
    refine ⟨?_, fun y hy => ?_⟩
    · rcases h1 with h1 | h1
      · exact List.mem_cons.mpr (.inl h1)
      · exact List.mem_cons_of_mem _ h1
    · rcases List.mem_cons.mp hy with rfl | hy
      · exact h2
      · exact h3 y hy
def dMinL : List D → Option D
  | [.lst ds] => (intsOf ds).bind fun ns => if ns.isEmpty then none else some (.int (minL ns))
  | _ => none
def dMaxL : List D → Option D
  | [.lst ds] => (intsOf ds).bind fun ns => if ns.isEmpty then none else some (.int (maxL ns))
  | _ => none
theorem b_minL (hc : X.calm = true) : VCall G X (.builtin "min") dMinL := by
  refine ⟨_, cr_min hc, fun M H vs ds d Q hm r e q => ?_⟩
  unfold dMinL at e
  split at e
  · obtain ⟨ns, e1, e⟩ := Option.bind_eq_some_iff.mp e
    split at e
    · cases e
    · rename_i hne
      cases e
      obtain ⟨v, rfl, rt⟩ := r.one
      obtain ⟨a, rfl, h1⟩ := rt.ints e1
      have hn : ns ≠ [] := fun z => hne (by rw [z]; rfl)
      refine ⟨a, ns, rfl, .of h1, List.length_pos_iff.mpr hn, fun m hm1 hm2 => ?_⟩
      obtain ⟨k1, k2⟩ := minL_spec hn
      have e1 := hm2 _ k1
      have e2 := k2 _ hm1
      rw [show m = minL ns by omega]
      exact q _ H (.refl H) (.int _)
  · cases e
theorem b_maxL (hc : X.calm = true) : VCall G X (.builtin "max") dMaxL := by
  refine ⟨_, cr_max hc, fun M H vs ds d Q hm r e q => ?_⟩
  unfold dMaxL at e
  split at e
  · obtain ⟨ns, e1, e⟩ := Option.bind_eq_some_iff.mp e
    split at e
    · cases e
    · rename_i hne
      cases e
      obtain ⟨v, rfl, rt⟩ := r.one
      obtain ⟨a, rfl, h1⟩ := rt.ints e1
      have hn : ns ≠ [] := fun z => hne (by rw [z]; rfl)
      refine ⟨a, ns, rfl, .of h1, List.length_pos_iff.mpr hn, fun m hm1 hm2 => ?_⟩
      obtain ⟨k1, k2⟩ := maxL_spec hn
      have e1 := hm2 _ k1
      have e2 := k2 _ hm1
      rw [show m = maxL ns by omega]
      exact q _ H (.refl H) (.int _)
  · cases e
def blsOf : List D → Option (List Bool)
  | [] => some []
  | .bl b :: ds => (blsOf ds).bind fun bs => some (b :: bs)
  | _ => none
theorem RepL.bls : ∀ {M : Addr → Prop} {H : Hp} {ds : List D} {vs : List V} {bs : List Bool}, RepL G M H vs ds → blsOf ds = some bs → vs = bs.map V.bl
  | _, _, [], _, _, h, e => by cases h; cases e; rfl
  | _, _, .bl b :: ds, _, _, h, e => by
    unfold blsOf at e
    obtain ⟨ms, e1, e⟩ := Option.bind_eq_some_iff.mp e
    cases e
    cases h with
    | cons h t => cases h; rw [RepL.bls t e1]; rfl
  | _, _, .non :: _, _, _, _, h => by simp [blsOf] at h
  | _, _, .int _ :: _, _, _, _, h => by simp [blsOf] at h
  | _, _, .str _ :: _, _, _, _, h => by simp [blsOf] at h
  | _, _, .tup _ :: _, _, _, _, h => by simp [blsOf] at h
  | _, _, .lst _ :: _, _, _, _, h => by simp [blsOf] at h
  | _, _, .obj _ _ :: _, _, _, _, h => by simp [blsOf] at h
  | _, _, .dct _ :: _, _, _, _, h => by simp [blsOf] at h
  | _, _, .iset _ :: _, _, _, _, h => by simp [blsOf] at h
  | _, _, .frz _ :: _, _, _, _, h => by simp [blsOf] at h
def dAny : List D → Option D
  | [.lst ds] => (blsOf ds).bind fun bs => some (.bl (bs.any id))
  | _ => none
def dAll : List D → Option D
  | [.lst ds] => (blsOf ds).bind fun bs => some (.bl (bs.all id))
  | _ => none
theorem b_any (hc : X.calm = true) : VCall G X (.builtin "any") dAny := by
  refine ⟨_, cr_any hc, fun M H vs ds d Q hm r e q => ?_⟩
  unfold dAny at e
  split at e
  · obtain ⟨bs, e1, e⟩ := Option.bind_eq_some_iff.mp e
    cases e
    obtain ⟨v, rfl, rt⟩ := r.one
    obtain ⟨a, xs, rfl, h1, h2⟩ := rt.lst
    rw [h2.bls e1] at h1
    exact ⟨a, bs, rfl, .of h1, q _ H (.refl H) (.bl _)⟩
  · cases e
theorem b_all (hc : X.calm = true) : VCall G X (.builtin "all") dAll := by
  refine ⟨_, cr_all hc, fun M H vs ds d Q hm r e q => ?_⟩
  unfold dAll at e
  split at e
  · obtain ⟨bs, e1, e⟩ := Option.bind_eq_some_iff.mp e
    cases e
    obtain ⟨v, rfl, rt⟩ := r.one
    obtain ⟨a, xs, rfl, h1, h2⟩ := rt.lst
    rw [h2.bls e1] at h1
    exact ⟨a, bs, rfl, .of h1, q _ H (.refl H) (.bl _)⟩
  · cases e
/-- list(x), tuple(x) -/
def dListOf : List D → Option D
  | [.lst ds] => some (.lst ds)
  | [.tup ds] => some (.lst ds)
  | [.frz ds] => some (.lst ds)
  | _ => none
theorem b_list (hK : G.K = X.K) : VCallN G X (.type "list") dListOf := by
  refine ⟨_, call_list_of, fun M H vs ds d Q hm r e q => ?_⟩
  unfold dListOf at e
  split at e
  · cases e
    obtain ⟨v, rfl, rt⟩ := r.one
    obtain ⟨a, xs, rfl, h1, h2⟩ := rt.lst
    exact ⟨a, xs, rfl, .inl (.of h1), fun p hp => q p _ (same_new hp) hp (new_lst hp h2)⟩
  · cases e
    obtain ⟨v, rfl, rt⟩ := r.one
    obtain ⟨a, o, xs, rfl, h1, h0, h2⟩ := rt.tup
    exact ⟨a, xs, rfl, .inr (.inl (.inr ⟨o, h1⟩)), fun p hp => q p _ (same_new hp) hp (new_lst hp h2)⟩
  · cases e
    obtain ⟨v, rfl, rt⟩ := r.one
    obtain ⟨a, xs, rfl, h1, h2⟩ := rt.frz
    exact ⟨a, xs, rfl, .inl (hK ▸ h1), fun p hp => q p _ (same_new hp) hp (new_lst hp h2)⟩
  · cases e
def dTupOf : List D → Option D
  | [.lst ds] => some (.tup ds)
  | [.tup ds] => some (.tup ds)
  | _ => none
theorem b_tuple : VCall G X (.type "tuple") dTupOf := by
  refine ⟨_, cr_tupOf, fun M H vs ds d Q hm r e q => ?_⟩
  unfold dTupOf at e
  split at e
  · cases e
    obtain ⟨v, rfl, rt⟩ := r.one
    obtain ⟨a, xs, rfl, h1, h2⟩ := rt.lst
    exact .inl ⟨a, xs, rfl, .of h1, fun p o hp ho => q _ _ (same_new hp) (new_tup hm hp ho h2)⟩
  · cases e
    obtain ⟨v, rfl, rt⟩ := r.one
    have rt' := rt
    obtain ⟨a, o, xs, rfl, h1, h0, h2⟩ := rt.tup
    refine .inr ⟨a, xs, rfl, .inl (.inr ⟨o, h1⟩), q _ H (.refl H) ?_⟩
    rcases rt' with rt | ⟨a', e', rt⟩
    · exact rt
    · cases rt
  · cases e
/-- sorted(ints) -/
def sortI (ns : List Int) : List Int := ns.mergeSort fun a b => decide (a ≤ b)
theorem sortI_perm (ns : List Int) : (sortI ns).Perm ns := List.mergeSort_perm ns _
theorem sortI_sorted (ns : List Int) : (sortI ns).Pairwise (· ≤ ·) := by
  have := List.pairwise_mergeSort (le := fun a b : Int => decide (a ≤ b)) (fun a b c h1 h2 => by simp at *; omega) (fun a b => by simp; omega) ns
  exact this.imp fun h => of_decide_eq_true h
theorem sorted_uniq : ∀ {xs ys : List Int}, xs.Perm ys → xs.Pairwise (· ≤ ·) → ys.Pairwise (· ≤ ·) → xs = ys := by
  intro xs ys hp hx hy
  exact List.Perm.eq_of_pairwise (fun a b _ _ h1 h2 => Int.le_antisymm h1 h2) hx hy hp
def dSortI : List D → Option D
  | [.lst ds] => (intsOf ds).bind fun ns => some (.lst ((sortI ns).map .int))
  | _ => none
theorem b_sortI : VCallN G X (.builtin "sorted") dSortI := by
  refine ⟨_, cr_sortedI, fun M H vs ds d Q hm r e q => ?_⟩
  unfold dSortI at e
  split at e
  · obtain ⟨ns, e1, e⟩ := Option.bind_eq_some_iff.mp e
    cases e
    obtain ⟨v, rfl, rt⟩ := r.one
    obtain ⟨a, rfl, h1⟩ := rt.ints e1
    refine ⟨a, ns, rfl, .of h1, fun ns' p hp1 hp2 hp => ?_⟩
    rw [sorted_uniq (hp1.trans (sortI_perm ns).symm) hp2 (sortI_sorted ns)]
    exact q p _ (same_new hp) hp (new_lst hp RepL.ints)
  · cases e
/-! ### isinstance(x, T), T a built-in type -/
def tyD : D → String
  | .non => "NoneType"
  | .bl _ => "bool"
  | .int _ => "int"
  | .str _ => "str"
  | .tup _ => "tuple"
  | .lst _ => "list"
  | .frz _ => "list"
  | .dct _ => "dict"
  | .iset _ => "set"
  | .obj _ _ => ""
theorem RepT.tyX {M : Addr → Prop} {H : Hp} {v : V} {d : D} (h : RepT G M H v d) (ho : ∀ c fs, d ≠ .obj c fs) : TyX G.K H v (.type (tyD d)) := by
  rcases h with h | ⟨a, rfl, h⟩
  · cases h with
    | non => exact .base .non
    | bl b => exact .base (.bl b)
    | int i => exact .base (.int i)
    | str x => exact .base (.str x)
    | tup _ h2 _ _ => exact .fTuple h2
    | lst _ h2 _ => exact .base (.lst h2)
    | obj _ _ _ => exact (ho _ _ rfl).elim
    | dct _ h2 _ => exact .base (.dK h2)
    | iset _ h2 _ => exact .set h2
    | frz _ h2 _ => exact .base (.frz h2)
    | kon h2 _ =>
      obtain ⟨o, its, n, e, c, _⟩ := h2
      exact .kList e c
  · cases h with
    | lst h2 _ => exact .base (.lst h2)
    | obj _ _ => exact (ho _ _ rfl).elim
    | dct h2 _ => exact .base (.dK h2)
    | iset h2 _ => exact .set h2
def isObj : D → Bool
  | .obj _ _ => true
  | _ => false
def xIsi (T : String) (f : FE) : FE := fun ρ => (f ρ).bind fun z => (z.1.rd z.2).bind fun d => if isObj d then none else (kitB (tyD d) T).bind fun b => some (.val (.bl b), z.2)
theorem DE.isi {T : String} {x y : Str} {p p2 pos : Pos} {e : Expr} {f : FE} (hK : G.K = X.K) (hg : Gl X x) (hm : X.mg x = none) (hv : bootBuiltins x = some (.builtin "isinstance")) (hn : x ≠ "__name__") (hdb : (x == ("__debug__" : Str)) = false)
    (hg2 : Gl X y) (hm2 : X.mg y = none) (hv2 : bootBuiltins y = some (.type T)) (hn2 : y ≠ "__name__") (hdb2 : (y == ("__debug__" : Str)) = false) (h : DE G X e f)
    (he : starEach [e, .Name y p2] X.env = (false, eval e X.env) :: starEach [.Name y p2] X.env) (he2 : starEach [.Name y p2] X.env = (false, eval (.Name y p2) X.env) :: starEach [] X.env) (hpl : (backTo pos (starEach [.Name y p2] X.env)).any (·.1) = false) :
    DE G X (.Call (.Name x p) [e, .Name y p2] [] pos) (xIsi T f) := by
  obtain ⟨t, pt, q⟩ := h.ex
  refine ⟨_, pe_callB call_isi hg hm hv (pa_cons pt (pa_cons (pe_bltn (v := .ty T) hg2 hm2 hv2 rfl hn2 hdb2) pa_nil he2) he) hn hdb he hpl, fun N σ H ρ rr ρ' Q I e w => ?_⟩
  obtain ⟨z, e1, e⟩ := Option.bind_eq_some_iff.mp e
  obtain ⟨d, e2, e⟩ := Option.bind_eq_some_iff.mp e
  split at e
  · cases e
  · rename_i ho
    obtain ⟨b, e3, e⟩ := Option.bind_eq_some_iff.mp e
    cases e
    refine q N σ H ρ z.1 z.2 _ I e1 fun v H1 g r1 => ?_
    have ty := (r1.repT g.env e2).tyX fun c fs z => ho (by rw [z]; rfl)
    rw [hK] at ty
    exact ⟨v, .ty T, _, _, b, rfl, .ty T, ty, kit_ty e3, w _ H1 g (.bl b)⟩
/-! ### +, * of lists and tuples -/
noncomputable def dCat : D → D → Option D := fun a b => match a, b with
  | .lst xs, .lst ys => if Grd (xs.length + ys.length ≤ sizeLine) then some (.lst (xs ++ ys)) else none
  | _, _ => none
noncomputable def dCatT : D → D → Option D := fun a b => match a, b with
  | .tup xs, .tup ys => if Grd (xs.length + ys.length ≤ sizeLine) then some (.tup (xs ++ ys)) else none
  | _, _ => none
theorem v_cat : VOpN G X (binaryOp .Add) dCat := by
  refine ⟨_, op_cat, fun M H x y dx dy d Q hm rx ry e q => ?_⟩
  unfold dCat at e
  split at e
  · split at e
    · rename_i hz
      cases e
      obtain ⟨a, xs, rfl, h1, h2⟩ := rx.lst
      obtain ⟨b, ys, rfl, h3, h4⟩ := ry.lst
      exact ⟨a, b, xs, ys, rfl, rfl, h1, h3, by rw [h2.length, h4.length]; exact hz, fun p hp => q p _ (same_new hp) hp (new_lst hp (h2.append h4))⟩
    · cases e
  · cases e
theorem RepT.tupR {M : Addr → Prop} {H : Hp} {v : V} {ds : List D} (rt : RepT G M H v (.tup ds)) : Rep G M H v (.tup ds) := by
  rcases rt with rt | ⟨a', e', rt⟩
  · exact rt
  · cases rt
theorem v_catT : VOp G X (binaryOp .Add) dCatT := by
  refine ⟨_, op_catF, fun M H x y dx dy d Q hm rx ry e q => ?_⟩
  unfold dCatT at e
  split at e
  · split at e
    · rename_i hz
      cases e
      have rx' := rx.tupR
      have ry' := ry.tupR
      obtain ⟨a, o, xs, rfl, h1, h0, h2⟩ := rx.tup
      obtain ⟨b, o2, ys, rfl, h3, h30, h4⟩ := ry.tup
      refine ⟨a, b, xs, ys, rfl, rfl, .inl (.inr ⟨o, h1⟩), .inl (.inr ⟨o2, h3⟩), by rw [h2.length, h4.length]; exact hz, fun z => ?_, fun z z2 => ?_, fun z z2 p o hp ho => ?_⟩
      · subst z
        cases h2
        exact q _ H (.refl H) ry'
      · subst z2
        cases h4
        rw [List.append_nil] at q
        exact q _ H (.refl H) rx'
      · exact q _ _ (same_new hp) (new_tup hm hp ho (h2.append h4))
    · cases e
  · cases e
/-! ### one value in a tuple or list of flat ones -/
def flatD : D → Bool
  | .non | .bl _ | .int _ | .str _ => true
  | _ => false
def eqD0 : D → D → Bool
  | .non, .non => true
  | .bl a, .bl b => a == b
  | .int a, .int b => a == b
  | .str a, .str b => a == b
  | _, _ => false
end
end DL

set_option maxRecDepth 100000
namespace PySem.W
open PySem PySem.Calls PyProof.Rows
section
variable {prog : Program} {w : World} {A : Around} {E : Value → Shared → Prop} {s : Shared} {β : Type} {vs : List Value} {bs : List β} {enc : β → PyData} {R : Value → β → Prop}
theorem dl_collect_tup {l : Addr} {vs : List Value} {Q : List Value → Shared → Prop} (hl : IsTup s.heap l vs.toArray)
    (h : Q vs { s with heap := (s.heap.push (seqObj "list" #[] 0)).update s.heap.objs.size (Obj.mapSeq (· ++ vs.toArray)) }) (hsz : vs.length ≤ sizeLine) :
    wpAny (model prog w) A (collect (.ref l)) Q E s := by
  obtain ⟨o, ho, hc, n, hd⟩ := id hl
  unfold collect
  refine wpAny_bind (wpAny_runValue (codeAny_builtin entry_proto_collect' ?_))
  show wpAny _ _ (do again (.builtin "list.__iadd__" ⟨[← newList [], .ref l], []⟩)) _ _ s
  refine wpAny_bind (wpAny_newList (wpAny_pure ⟨Code.quiet_builtin _ (by decide +kernel), codeAny_builtin entry_list_iadd' ?_⟩))
  show wpAny _ _ (Builtin.List.listExtendWith (.ref s.heap.objs.size) (.ref l) (.ref s.heap.objs.size)) _ _ { s with heap := s.heap.push (seqObj "list" #[] 0) }
  unfold Builtin.List.listExtendWith
  have ho' : (s.heap.push (seqObj "list" #[] 0)).get? l = some o := Heap.get?_push_of_some _ ho
  refine wpAny_bind (wpAny_typeOf (T := "tuple") ⟨o, ho', hc⟩ ?_)
  have ht : (Value.type "tuple" == Value.type "tuple") = true := by rfl
  rw [if_pos (by rw [ht]; simp)]
  refine wpAny_bind (listItems_at ho' hd ?_)
  refine wpAny_bind (listItems_at (xs := #[]) (n := 0) (Heap.get?_push_size _ rfl) rfl ?_)
  rw [if_neg (by simp)]
  refine wpAny_bind (listUpdate_at (xs := #[]) (n := 0) (Heap.get?_push_size _ rfl) rfl ?_ (Nat.zero_le _) (by show (#[] ++ vs.toArray).size ≤ sizeLine + 1; simp only [Array.size_append, List.size_toArray, List.length_nil]; omega))
  refine wpAny_pure ?_
  show wpAny (model prog w) A (do
      let o ← load s.heap.objs.size
      match o.data with
      | .seq xs _ => pure xs.toList
      | _ => unsupported "internal:collect") Q E { s with heap := (s.heap.push (seqObj "list" #[] 0)).update s.heap.objs.size (Obj.mapSeq (· ++ vs.toArray)) }
  refine wpAny_bind (wpAny_load (get?_update_seq (Heap.get?_push_size _ rfl) _) ?_)
  show wpAny _ _ (pure ((#[] : Array Value) ++ vs.toArray).toList) Q E _
  rw [show ((#[] : Array Value) ++ vs.toArray).toList = vs by simp]
  exact wpAny_pure h
theorem dl_sorted_of_sort {l : Addr} {vs : List Value} {kw : List (Str × Value)} {Q : Value → Shared → Prop} (hl : IsTup s.heap l vs.toArray) (hL : vs.length ≤ sizeLine) (ha1 : argsOk "sorted" ⟨[.ref l], kw⟩) (ha2 : ∀ x, argsOk "list.sort" ⟨[.ref x], kw⟩)
    (body : ∀ E' : Value → Shared → Prop, wpAny (model prog w) A.in1.in1 (Builtin.«list.sort» ⟨[.ref (s.heap.objs.size + 1)], kw⟩) (fun f s' => f = .done (.ret .none) ∧ Q (.ref (s.heap.objs.size + 1)) s') E' { s with heap := copyHeap s.heap vs }) :
    wpAny (model prog w) A (call (.builtin "sorted") [.ref l] kw) Q E s := by
  refine call_function_entry_kw kind_sorted plain_sorted entry_sorted ha1 ?_
  unfold Builtin.«sorted»
  refine wpAny_bind (m := checkCount "sorted" 1 1 _) (wpAny_pure ?_)
  refine wpAny_bind (dl_collect_tup hl ?_ hL)
  refine wpAny_bind (wpAny_newList ?_ hL)
  have hsz : ((s.heap.push (seqObj "list" #[] 0)).update s.heap.objs.size (Obj.mapSeq (· ++ vs.toArray))).objs.size = s.heap.objs.size + 1 := by
    rw [Heap.size_update, size_push']
  show wpAny _ _ _ _ _ { s with heap := copyHeap s.heap vs }
  rw [hsz]
  refine wpAny_bind (wpAny_holding (wpAny_call_entry_kw slot_list_sort ⟨_, copyHeap_at s.heap vs, rfl⟩ entry_list_sort ?body (ha2 _)))
  case body =>
    show wpAny (model prog w) A.in1.in1 (Builtin.«list.sort» ⟨[.ref (s.heap.objs.size + 1)], kw⟩) _ _ _
    refine wpAny_mono (body _) (fun f s' hf => ?_) fun _ _ e => e
    obtain ⟨rfl, hq⟩ := hf
    exact ⟨_, rfl, wpAny_pure ⟨_, rfl, hq⟩⟩
theorem dl_sorted_tup {l : Addr} {Q : Value → Shared → Prop} (hl : IsTup s.heap l vs.toArray) (e : EachIs R vs bs) (er : EachIs (fun v b => ∃ as, Reads s.heap v (enc b) as) vs bs) (hal : AllAlike (bs.map enc)) (hk : Sortable (bs.map enc)) (hL : bs.length ≤ sizeLine)
    (hu : ∀ b, b ∈ bs → A.units + 2 + (enc b).depth < cLine) (h : ∀ out, out.length = bs.length → EachIs R out (bs.mergeSort (dataLe false enc)) → Q (.ref (s.heap.objs.size + 1)) { s with heap := sortedAll s.heap vs (List.toArray out) }) :
    wpAny (model prog w) A (call (.builtin "sorted") [.ref l]) Q E s := by
  have er' : EachIs (fun v b => ∃ as, Reads (sortingHeap (copyHeap s.heap vs) (s.heap.objs.size + 1) vs) v (enc b) as) vs bs := er.mono fun _ _ ⟨as, r⟩ => ⟨as, PyProof.Rows.Reads.keeps (fun _ _ => sorting_copy_old) r⟩
  have S := SortsAt.data (prog := prog) (w := w) (A := A.in1.in1) (s := { s with heap := sortingHeap (copyHeap s.heap vs) (s.heap.objs.size + 1) vs }) (each_map (R := fun v d => ∃ as, Reads (sortingHeap (copyHeap s.heap vs) (s.heap.objs.size + 1) vs) v d as) enc er') hal hk (bound_map hu)
  have hL' : vs.length ≤ sizeLine := by rw [e.length]; exact hL
  refine dl_sorted_of_sort hl hL' (args_sorted1 _) (fun _ => args_list_sort _) fun _ => list_sort_vals (s := { s with heap := copyHeap s.heap vs }) (copyHeap_at s.heap vs) S hL' ⟨rfl, ?_⟩
  exact h _ (by rw [sortVals_length false rfl]; exact e.length) (sortVals_data false e er' hal)
end
end PySem.W
namespace DL
open PySem PySem.Spec PyProof.Rows L2
/-- sorted(x) of alike data -/
def rSortD (K : PySem.W.Frag) : List V → Hp → VK → Prop := fun vs H Q => ∃ (a : Addr) (bs : List (V × PyData)), vs = [.ref a] ∧ (SqL K H a (bs.map (·.1)) ∨ SqT K H a (bs.map (·.1))) ∧ (∀ b ∈ bs, Dp K H b.1 b.2) ∧ PySem.W.AllAlike (bs.map (·.2)) ∧ PySem.W.Sortable (bs.map (·.2)) ∧
  (∀ b ∈ bs, b.2.depth ≤ 60) ∧ ∀ p, H p = none → Q (.ref p) (upd H p (.lst ((bs.mergeSort (PySem.W.dataLe false (·.2))).map (·.1))))
section
variable {X : Cx}
theorem each_vals : ∀ {bs : List (V × PyData)} {us : List Value}, Vals (bs.map (·.1)) us → PySem.W.EachIs (fun v (b : V × PyData) => RelV b.1 v) us bs
  | [], _, h => by cases h; exact .nil
  | b :: bs, _, h => by
    cases h with
    | cons h t => exact .cons h (each_vals t)
theorem vals_each : ∀ {bs : List (V × PyData)} {us : List Value}, PySem.W.EachIs (fun v (b : V × PyData) => RelV b.1 v) us bs → Vals (bs.map (·.1)) us
  | _, _, .nil => .nil
  | _, _, .cons h t => .cons h (vals_each t)
theorem each_reads {pins : List (Addr × Obj)} {σ : L2.St} {H : Hp} {s : Shared} (I : Inv X pins σ H s) : ∀ {bs : List (V × PyData)} {us : List Value}, Vals (bs.map (·.1)) us → (∀ b ∈ bs, Dp X.K H b.1 b.2) → PySem.W.EachIs (fun v (b : V × PyData) => ∃ as, Reads s.heap v b.2 as) us bs
  | [], _, h, _ => by cases h; exact .nil
  | b :: bs, _, h, hd => by
    cases h with
    | cons h t => exact .cons (Dp.reads I b.2 b.1 _ (hd b List.mem_cons_self) h) (each_reads I t fun b hb => hd b (List.mem_cons_of_mem _ hb))
theorem cr_sortedD (hu : X.A.units + 65 < cLine) : CallR X (.builtin "sorted") (rSortD X.K) := by
  intro pins s σ H vs us Q I r h
  obtain ⟨a, bs, rfl, hs, hd, hal, hk, hdp, q⟩ := h
  rw [Vals.ref1 r]
  have room : ∀ b ∈ bs, X.A.units + 2 + b.2.depth < cLine := fun b hb => by have := hdp b hb; omega
  have fin : ∀ its : List Value, Vals (bs.map (·.1)) its → bs.length ≤ sizeLine → ∀ out : List Value, out.length = bs.length → PySem.W.EachIs (fun v (b : V × PyData) => RelV b.1 v) out (bs.mergeSort (PySem.W.dataLe false (·.2))) →
      EP X pins σ Q (.ref (s.heap.objs.size + 1)) { s with heap := PyProof.Rows.sortedAll s.heap its (List.toArray out) } := fun its rv hz out hl he => by
    obtain ⟨ep, he'⟩ := PyProof.Rows.sortedAll_at s.heap its out.toArray
    have hlen : ((bs.mergeSort (PySem.W.dataLe false (·.2))).map (·.1) : List V).length ≤ sizeLine := by
      rw [List.length_map, List.length_mergeSort]
      exact hz
    exact ⟨.ref _, upd H (s.heap.objs.size + 1) (.lst ((bs.mergeSort (PySem.W.dataLe false (·.2))).map (·.1))), I.laid (t' := s.toks) (fun _ _ => PyProof.Rows.sortedAll_old) (Nat.le_succ _) ⟨hlen, out, ep, vals_each he, he'⟩, rfl, q _ (I.hok.fresh (Nat.le_succ _))⟩
  rcases hs with hs | hs
  · obtain ⟨its, rv, hl, hz⟩ := I.list hs
    have hz' : bs.length ≤ sizeLine := by rw [List.length_map] at hz; exact hz
    exact PySem.W.sorted_data (R := fun v (b : V × PyData) => RelV b.1 v) (enc := fun b : V × PyData => b.2) hl.isList (each_vals rv) (each_reads I rv hd) hal hk hz' room fun out h1 h2 => fin its rv hz' out h1 h2
  · obtain ⟨its, rv, hl, hz⟩ := I.tuple hs
    have hz' : bs.length ≤ sizeLine := by rw [List.length_map] at hz; exact hz
    exact PySem.W.dl_sorted_tup (R := fun v (b : V × PyData) => RelV b.1 v) (enc := fun b : V × PyData => b.2) hl (each_vals rv) (each_reads I rv hd) hal hk hz' room fun out h1 h2 => fin its rv hz' out h1 h2
end
open Classical in
noncomputable def sortD (ds : List D) : Option (List D) := if fltL 59 ds = true ∧ PySem.W.AllAlike (ds.map D.py) ∧ PySem.W.Sortable (ds.map D.py) then some (ds.mergeSort (PySem.W.dataLe false D.py)) else none
noncomputable def dSort : List D → Option D
  | [.lst ds] => (sortD ds).bind fun es => some (.lst es)
  | [.tup ds] => (sortD ds).bind fun es => some (.lst es)
  | _ => none
section
variable {G : Gx} {X : Cx}
theorem zip_rep {M : Addr → Prop} {H : Hp} : ∀ {vs : List V} {ds : List D}, RepL G M H vs ds → ∃ bs : List (V × D), bs.map (·.1) = vs ∧ bs.map (·.2) = ds ∧ ∀ b ∈ bs, Rep G M H b.1 b.2
  | _, _, .nil => ⟨[], rfl, rfl, fun _ h => by simp at h⟩
  | _, _, .cons (v := v) (d := d) h t => by
    obtain ⟨bs, e1, e2, e3⟩ := zip_rep t
    refine ⟨(v, d) :: bs, by rw [List.map_cons, e1], by rw [List.map_cons, e2], fun b hb => ?_⟩
    rcases List.mem_cons.mp hb with rfl | hb
    · exact h
    · exact e3 b hb
theorem rep_zip {M : Addr → Prop} {H : Hp} : ∀ {bs : List (V × D)}, (∀ b ∈ bs, Rep G M H b.1 b.2) → RepL G M H (bs.map (·.1)) (bs.map (·.2))
  | [], _ => .nil
  | b :: bs, h => .cons (h b List.mem_cons_self) (rep_zip fun c hc => h c (List.mem_cons_of_mem _ hc))
theorem fltL_at : ∀ {n : Nat} {ds : List D}, fltL n ds = true → ∀ d ∈ ds, d.flt n = true
  | _, [], _, d, h => by simp at h
  | n, d :: ds, h, e, he => by
    rw [fltL, Bool.and_eq_true] at h
    rcases List.mem_cons.mp he with rfl | he
    · exact h.1
    · exact fltL_at h.2 e he
theorem sort_key {M : Addr → Prop} {H : Hp} {vs : List V} {ds es : List D} {a : Addr} {Q : VK} (h2 : RepL G M H vs ds) (e : sortD ds = some es) (hs : SqL X.K H a vs ∨ SqT X.K H a vs) (q : GivesN G M H (.lst es) Q) : rSortD X.K [.ref a] H Q := by
  unfold sortD at e
  split at e
  · rename_i hc
    cases e
    obtain ⟨hf, hal, hk⟩ := hc
    obtain ⟨bs, e1, e2, e3⟩ := zip_rep h2
    have em1 : (bs.map fun b => (b.1, b.2.py)).map (·.1) = vs := by rw [List.map_map]; exact e1
    have em2 : (bs.map fun b => (b.1, b.2.py)).map (·.2) = ds.map D.py := by rw [List.map_map, ← e2, List.map_map]; rfl
    have hfa := fltL_at hf
    have hb2 : ∀ b ∈ bs, b.2 ∈ ds := fun b hb => by rw [← e2]; exact List.mem_map.mpr ⟨b, hb, rfl⟩
    refine ⟨a, bs.map fun b => (b.1, b.2.py), rfl, by rw [em1]; exact hs, fun b hb => ?_, by rw [em2]; exact hal, by rw [em2]; exact hk, fun b hb => ?_, fun p hp => ?_⟩
    · obtain ⟨c, hc, rfl⟩ := List.mem_map.mp hb
      exact (e3 c hc).dp 59 _ _ (hfa _ (hb2 c hc))
    · obtain ⟨c, hc, rfl⟩ := List.mem_map.mp hb
      exact Nat.le_trans (flt_depth 59 _ (hfa _ (hb2 c hc))) (by decide)
    · have m1 : ((bs.mergeSort fun a b => PySem.W.dataLe false D.py a.2 b.2).map fun b => (b.1, b.2.py)) = (bs.map fun b => (b.1, b.2.py)).mergeSort (PySem.W.dataLe false (·.2)) := List.map_mergeSort fun a _ b _ => rfl
      have m2 : ((bs.mergeSort fun a b => PySem.W.dataLe false D.py a.2 b.2).map fun b => b.2) = (bs.map (·.2)).mergeSort (PySem.W.dataLe false D.py) := List.map_mergeSort fun a _ b _ => rfl
      rw [← m1, List.map_map]
      refine q p _ (same_new hp) hp (new_lst hp ?_)
      rw [← e2, ← m2]
      exact rep_zip fun b hb => e3 b (List.mem_mergeSort.mp hb)
  · cases e
theorem b_sort (hu : X.A.units + 65 < cLine) : VCallN G X (.builtin "sorted") dSort := by
  refine ⟨_, cr_sortedD hu, fun M H vs ds d Q hm r e q => ?_⟩
  unfold dSort at e
  split at e
  · obtain ⟨es, e1, e⟩ := Option.bind_eq_some_iff.mp e
    cases e
    obtain ⟨v, rfl, rt⟩ := r.one
    obtain ⟨a, xs, rfl, h1, h2⟩ := rt.lst
    exact sort_key h2 e1 (.inl (.of h1)) q
  · obtain ⟨es, e1, e⟩ := Option.bind_eq_some_iff.mp e
    cases e
    obtain ⟨v, rfl, rt⟩ := r.one
    obtain ⟨a, o, xs, rfl, h1, h0, h2⟩ := rt.tup
    exact sort_key h2 e1 (.inr (.inl (.inr ⟨o, h1⟩))) q
  · cases e
end
end DL

set_option maxRecDepth 100000
namespace PySem.SeqAt
open PySem PySem.Calls PyProof.Rows
section
variable {prog : Program} {w : World} {A : Around} {E : Value → Shared → Prop} {s : Shared} {l : Addr} {vs : Array Value} {xs : List PyData} {x : Value} {d : PyData} {as bs : List Addr} {Q : Value → Shared → Prop}
theorem dl_index_tuple {j : Nat} (hl : s.heap.IsTuple l vs) (rs : ReadsAll s.heap vs.toList xs as) (rx : Reads s.heap x d bs) (hxs : PyData.plainAll xs = true) (hd : d.plain = true) (hu : A.units + 1 + min (PyData.depthAll xs) d.depth < cLine)
    (hp : dataPlace xs d = some j) (h : Q (.int (j : Nat) s.toks) { s with toks := s.toks + 1 }) : wpAny (model prog w) A (call (.builtin "tuple.index") [.ref l, x]) Q E s := by
  obtain ⟨⟨cls, dd, data, sl⟩, ho, hc, n, hd'⟩ := id hl
  simp only at hc hd'
  subst hc hd'
  obtain ⟨hj, hit, hno⟩ := hit_at rs hxs hp
  have hi := items_plain rs rx hxs hd hu
  refine call_meets F.slot_tuple_index ⟨_, ho, rfl⟩ F.entry_tuple_index (F.args_tuple_index_2 _ _)
    (tuple_index2_found l vs n dd sl x (fun m => if hm : m < vs.size then PyData.eqv (readOf s.heap vs[m]) d else false) j hj (Nat.zero_le _) hj ?_ ?_) ⟨ho, fun m hm => ?_, h⟩
  · rw [dif_pos hj]; exact hit
  · intro m hm _ hmj
    rw [dif_pos hm]; exact hno m hm hmj
  · rw [dif_pos hm]
    exact hi _ (Array.getElem_mem hm)
theorem dl_index_list {j : Nat} (hl : s.heap.IsList l vs) (rs : ReadsAll s.heap vs.toList xs as) (rx : Reads s.heap x d bs) (hxs : PyData.plainAll xs = true) (hd : d.plain = true) (hu : A.units + 1 + min (PyData.depthAll xs) d.depth < cLine)
    (hp : dataPlace xs d = some j) (hz : vs.size ≤ sizeLine) (h : Q (.int (j : Nat) s.toks) { s with toks := s.toks + 1 }) : wpAny (model prog w) A (call (.builtin "list.index") [.ref l, x]) Q E s := by
  obtain ⟨⟨cls, dd, data, sl⟩, ho, hc, n, hd'⟩ := id hl
  simp only at hc hd'
  subst hc hd'
  obtain ⟨hj, hit, hno⟩ := hit_at rs hxs hp
  have hi := items_plain rs rx hxs hd hu
  have := sizeLine_eq
  refine call_meets F.slot_list_index ⟨_, ho, rfl⟩ F.entry_list_index (F.args_list_index_2 _ _)
    (list_indexAt l vs n dd sl x (fun u => PyData.eqv (readOf s.heap u) d) j hj (by omega) hit hno) ⟨ho, hi, h⟩
end
end PySem.SeqAt
namespace DL
open PySem PySem.Spec PyProof.Rows L2
theorem plainAll_of_lay : ∀ {ds : List PyData}, PyData.canLayAll0 ds = true → PyData.plainAll ds = true
  | [], _ => by simp [PyData.plainAll]
  | d :: ds, h => by
    simp only [PyData.canLayAll0, Bool.and_eq_true] at h
    simp only [PyData.plainAll, Bool.and_eq_true]
    exact ⟨PyData.plain_of_canLay0 d h.1, plainAll_of_lay h.2⟩
/-! ### methods of built-in types, tuples too -/
def tyF (K : PySem.W.Frag) (T : String) (x : V) (H : Hp) : Prop := tyV K T x H ∨ (T = "tuple" ∧ ∃ p o xs, x = .ref p ∧ H p = some (.frz o (.tup xs)) ∧ o.dict = none)
section
variable {X : Cx}
theorem tyF_is {pins : List (Addr × Obj)} {σ : L2.St} {H : Hp} {s : Shared} {T : String} {x : V} {v : Value} (I : Inv X pins σ H s) (r : RelV x v) (ty : tyF X.K T x H) :
    s.TypeIs v T ∧ ∀ a, v = .ref a → ∃ ob, s.heap.get? a = some ob ∧ ob.dict = none := by
  rcases ty with ty | ⟨rfl, p, o, xs, rfl, hp, ho⟩
  · exact tyV_is I r ty
  · cases r
    obtain ⟨e, hz, its, rv, it⟩ := I.hok p _ hp
    refine ⟨(show IsTup s.heap p its.toArray from it).typeIs, fun a ea => ?_⟩
    cases ea
    exact ⟨o, e, ho⟩
def tBMF0 (K : PySem.W.Frag) (T : String) (r : V → List V → Hp → VK → Prop) (to : TE) : TE := fun σ H Q => to σ H fun x H1 => tyF K T x H1 ∧ r x [] H1 Q
def tBMF (K : PySem.W.Frag) (T : String) (r : V → List V → Hp → VK → Prop) (to : TE) (t : TA) : TE := fun σ H Q => to σ H fun x H1 => tyF K T x H1 ∧ t σ H1 fun xs H2 => r x xs H2 Q
variable {o e : Expr} {es : List Expr} {to : TE} {t : TA} {name : Str} {apos cpos : Pos} {T id : String} {r : V → List V → Hp → VK → Prop}
theorem pe_bmF0 (pa : PlainAttrs T) (slot : PySem.Slot T name id) (hty : typeOf (.builtin id) = pure (.type "method_descriptor")) (hm : MtR X id r) (ho : PE X o to)
    (hbase : attributeBase o name X.env (eval o X.env) = eval o X.env) (hline : (apos.endLine == cpos.line) = true) : PE X (.Call (.Attribute o name apos) [] [] cpos) (tBMF0 X.K T r to) := by
  refine ⟨fun pins s σ H Q I h => ?_⟩
  refine wpAny_Call_method0_late hbase hline (thn (ho.run pins s σ H _ I h) fun v s1 ⟨x, H1, I1, r1, ty, q1⟩ => ?_)
  obtain ⟨h1, h2⟩ := tyF_is I1 r1 ty
  exact ⟨T, id, pa, slot, hty, h1, h2, Calls.callWith_builtin rfl (PySem.evalArgs_none (hm pins s1 σ H1 x [] v [] Q I1 r1 .nil q1))⟩
theorem pe_bmF (pa : PlainAttrs T) (slot : PySem.Slot T name id) (hty : typeOf (.builtin id) = pure (.type "method_descriptor")) (hm : MtR X id r) (ho : PE X o to) (ha : PA X (e :: es) t)
    (hbase : attributeBase o name X.env (eval o X.env) = eval o X.env)
    (hfew : ((backTo cpos (starEach (e :: es) X.env)).all (fun x => !x.1) && (backToKw cpos (keywordEach [] X.env)).all (fun x => x.1.isSome)
      && decide ((e :: es).length + ([] : List Keyword).length + (if ([] : List Keyword).isEmpty then 0 else 1) < 30)) = true)
    (hline : (apos.endLine == cpos.line) = true) (hs : starEach (e :: es) X.env = (false, eval e X.env) :: starEach es X.env) (hplain : (backTo cpos (starEach es X.env)).any (·.1) = false) :
    PE X (.Call (.Attribute o name apos) (e :: es) [] cpos) (tBMF X.K T r to t) := by
  refine ⟨fun pins s σ H Q I h => ?_⟩
  refine wpAny_Call_method_late hbase hfew hline rfl (thn (ho.run pins s σ H _ I h) fun v s1 ⟨x, H1, I1, r1, ty, q1⟩ => ?_)
  obtain ⟨h1, h2⟩ := tyF_is I1 r1 ty
  refine ⟨T, id, pa, slot, hty, h1, h2, ?_⟩
  have hA := ha.run cpos pins s1 σ H1 _ I1 q1
  rw [hs] at hA ⊢
  refine Calls.callWith_builtin (by show (false || (backTo cpos (starEach es X.env)).any (·.1)) = false; rw [hplain] <;> rfl) (Calls.evalArgs_plain ?_)
  exact thn hA fun us s2 ⟨vs, H2, I2, r2, q2⟩ => hm pins s2 σ H2 x vs v us Q I2 r1 r2 q2
end
/-- a method that reads -/
structure VMetF (G : Gx) (X : Cx) (T id : String) (g : D → List D → Option D) : Prop where
  ex : ∃ r, MtR X id r ∧ (∀ M H x dx ds d, RepT G M H x dx → g dx ds = some d → tyF X.K T x H) ∧
    ∀ M H x vs dx ds d Q, DomM M H → RepT G M H x dx → RepTL G M H vs ds → g dx ds = some d → Gives G M H d Q → r x vs H Q
/-- one that changes what it is asked of -/
structure VMutF (G : Gx) (X : Cx) (T id : String) (g : D → List D → Option (D × D)) : Prop where
  ex : ∃ r, MtR X id r ∧ (∀ M H a d, OwnN G M H a d → (∃ ds z, g d ds = some z) → tyF X.K T (.ref a) H) ∧
    ∀ M H a vs d ds z Q, DomM M H → M a → OwnN G M H a d → RepL G M H vs ds → g d ds = some z →
      (∀ o v, OwnN G M (upd H a o) a z.1 → Rep G M (upd H a o) v z.2 → Q v (upd H a o)) → r (.ref a) vs H Q
section
variable {G : Gx} {X : Cx} {a e : Expr} {es : List Expr} {f : FE} {h : FA} {name : Str} {apos cpos : Pos} {T id : String}
def xMet0 (g : D → List D → Option D) (f : FE) : FE := fun ρ => (f ρ).bind fun z => (z.1.rd z.2).bind fun d => (g d []).bind fun d1 => some (.val d1, z.2)
def xMet (g : D → List D → Option D) (f : FE) (h : FA) : FE := fun ρ => (f ρ).bind fun z => (z.1.rd z.2).bind fun d0 => (h z.2).bind fun y => (z.1.rd y.2).bind fun d => (rdAll y.2 y.1).bind fun ds => (g d ds).bind fun d1 => if (g d0 ds).isSome then some (.val d1, y.2) else none
theorem DE.met0 {g : D → List D → Option D} (pa : PlainAttrs T) (slot : PySem.Slot T name id) (hty : typeOf (.builtin id) = pure (.type "method_descriptor")) (hm : VMetF G X T id g) (ha : DE G X a f)
    (hbase : attributeBase a name X.env (eval a X.env) = eval a X.env) (hline : (apos.endLine == cpos.line) = true) : DE G X (.Call (.Attribute a name apos) [] [] cpos) (xMet0 g f) := by
  obtain ⟨r, hr, k1, k2⟩ := hm.ex
  obtain ⟨t, p, q⟩ := ha.ex
  refine ⟨_, pe_bmF0 pa slot hty hr p hbase hline, fun N σ H ρ rr ρ' Q I e kk => ?_⟩
  obtain ⟨z, e1, e⟩ := Option.bind_eq_some_iff.mp e
  obtain ⟨d, e2, e⟩ := Option.bind_eq_some_iff.mp e
  obtain ⟨d1, e3, e⟩ := Option.bind_eq_some_iff.mp e
  cases e
  refine q N σ H ρ z.1 z.2 _ I e1 fun v H1 g1 r1 => ?_
  have rt := r1.repT g1.env e2
  exact ⟨k1 _ H1 v d [] d1 rt e3, k2 _ H1 v [] d [] d1 Q g1.env.domM rt .nil e3 fun v H' s rv => kk v H' (g1.trans (GoE.grow g1.env s)) rv⟩
theorem DE.met {g : D → List D → Option D} (pa : PlainAttrs T) (slot : PySem.Slot T name id) (hty : typeOf (.builtin id) = pure (.type "method_descriptor")) (hm : VMetF G X T id g) (ha : DE G X a f) (hb : DA G X (e :: es) h)
    (hbase : attributeBase a name X.env (eval a X.env) = eval a X.env)
    (hfew : ((backTo cpos (starEach (e :: es) X.env)).all (fun x => !x.1) && (backToKw cpos (keywordEach [] X.env)).all (fun x => x.1.isSome)
      && decide ((e :: es).length + ([] : List Keyword).length + (if ([] : List Keyword).isEmpty then 0 else 1) < 30)) = true)
    (hline : (apos.endLine == cpos.line) = true) (hs : starEach (e :: es) X.env = (false, eval e X.env) :: starEach es X.env) (hplain : (backTo cpos (starEach es X.env)).any (·.1) = false) :
    DE G X (.Call (.Attribute a name apos) (e :: es) [] cpos) (xMet g f h) := by
  obtain ⟨r, hr, k1, k2⟩ := hm.ex
  obtain ⟨t, p, q⟩ := ha.ex
  obtain ⟨u, p2, q2⟩ := hb.ex
  refine ⟨_, pe_bmF pa slot hty hr p p2 hbase hfew hline hs hplain, fun N σ H ρ rr ρ' Q I e kk => ?_⟩
  obtain ⟨z, e1, e⟩ := Option.bind_eq_some_iff.mp e
  obtain ⟨d0, e2, e⟩ := Option.bind_eq_some_iff.mp e
  obtain ⟨y, e3, e⟩ := Option.bind_eq_some_iff.mp e
  obtain ⟨d, e4, e⟩ := Option.bind_eq_some_iff.mp e
  obtain ⟨ds, e5, e⟩ := Option.bind_eq_some_iff.mp e
  obtain ⟨d1, e6, e⟩ := Option.bind_eq_some_iff.mp e
  split at e
  · rename_i hs0
    cases e
    obtain ⟨d2, e7⟩ := Option.isSome_iff_exists.mp hs0
    refine q N σ H ρ z.1 z.2 _ I e1 fun v H1 g1 r1 => ?_
    refine ⟨k1 _ H1 v d0 ds d2 (r1.repT g1.env e2) e7, ?_⟩
    refine q2 N σ H1 z.2 y.1 y.2 _ g1.env e3 fun vs H2 g2 r2 => ?_
    refine k2 _ H2 v vs d ds d1 Q g2.env.domM ((g2.rr r1).repT g2.env e4) (r2.repTL g2.env e5) e6 fun v H' s rv => ?_
    exact kk v H' ((g1.trans g2).trans (GoE.grow g2.env s)) rv
  · cases e
/-- name.m(values), name's own thing changes -/
def xMut (i : Nat) (g : D → List D → Option (D × D)) (h : FA) : FE := fun ρ => match ρ[i]? with
  | some (.ow b d0) => (h ρ).bind fun y => (vals y.1).bind fun ds => match y.2[i]? with
    | some (.ow _ d) => (g d ds).bind fun z => if (g d0 ds).isSome then some (.val z.2, y.2.set i (.ow b z.1)) else none
    | _ => none
  | _ => none
def xMut0 (i : Nat) (g : D → List D → Option (D × D)) : FE := fun ρ => match ρ[i]? with
  | some (.ow b d) => (g d []).bind fun z => some (.val z.2, ρ.set i (.ow b z.1))
  | _ => none
theorem DE.mut0 {x : Str} {pos2 : Pos} (i : Nat) {g : D → List D → Option (D × D)} (pa : PlainAttrs T) (slot : PySem.Slot T name id) (hty : typeOf (.builtin id) = pure (.type "method_descriptor")) (hm : VMutF G X T id g)
    (hN : X.N[i]? = some x) (hv : Vis X.env.scope x) (hd : (x == ("__debug__" : Str)) = false) (hcd : (x == ("__classdict__" : Str)) = false)
    (hbase : attributeBase (.Name x pos2) name X.env (eval (.Name x pos2) X.env) = eval (.Name x pos2) X.env) (hline : (apos.endLine == cpos.line) = true) : DE G X (.Call (.Attribute (.Name x pos2) name apos) [] [] cpos) (xMut0 i g) := by
  obtain ⟨r, hr, k1, k2⟩ := hm.ex
  refine ⟨_, pe_bmF0 pa slot hty hr (pe_var hN hv hd hcd) hbase hline, fun N σ H ρ rr ρ' Q I e kk => ?_⟩
  unfold xMut0 at e
  split at e
  · rename_i b d h0
    obtain ⟨z, e3, e⟩ := Option.bind_eq_some_iff.mp e
    cases e
    obtain ⟨a, ea, _, oa⟩ := I.ow i b d h0
    refine ⟨_, ea, k1 _ H a d oa ⟨_, _, e3⟩, ?_⟩
    have own : OwnS σ ρ a := ⟨i, b, d, h0, ea⟩
    refine k2 _ H a [] d [] z Q I.domM (.inr own) oa .nil e3 fun o v on rv => ?_
    have gu := GoE.updS I h0 ea on
    refine kk v _ gu ?_
    show Rep G _ _ _ _
    rw [gu.mm]
    exact rv
  · cases e
theorem DE.mut {x : Str} {pos2 : Pos} (i : Nat) {g : D → List D → Option (D × D)} (pa : PlainAttrs T) (slot : PySem.Slot T name id) (hty : typeOf (.builtin id) = pure (.type "method_descriptor")) (hm : VMutF G X T id g)
    (hN : X.N[i]? = some x) (hv : Vis X.env.scope x) (hd : (x == ("__debug__" : Str)) = false) (hcd : (x == ("__classdict__" : Str)) = false) (hb : DA G X (e :: es) h)
    (hbase : attributeBase (.Name x pos2) name X.env (eval (.Name x pos2) X.env) = eval (.Name x pos2) X.env)
    (hfew : ((backTo cpos (starEach (e :: es) X.env)).all (fun x => !x.1) && (backToKw cpos (keywordEach [] X.env)).all (fun x => x.1.isSome)
      && decide ((e :: es).length + ([] : List Keyword).length + (if ([] : List Keyword).isEmpty then 0 else 1) < 30)) = true)
    (hline : (apos.endLine == cpos.line) = true) (hs : starEach (e :: es) X.env = (false, eval e X.env) :: starEach es X.env) (hplain : (backTo cpos (starEach es X.env)).any (·.1) = false) :
    DE G X (.Call (.Attribute (.Name x pos2) name apos) (e :: es) [] cpos) (xMut i g h) := by
  obtain ⟨r, hr, k1, k2⟩ := hm.ex
  obtain ⟨u, p2, q2⟩ := hb.ex
  refine ⟨_, pe_bmF pa slot hty hr (pe_var hN hv hd hcd) p2 hbase hfew hline hs hplain, fun N σ H ρ rr ρ' Q I e kk => ?_⟩
  unfold xMut at e
  split at e
  · rename_i b d0 h0
    obtain ⟨y, e1, e⟩ := Option.bind_eq_some_iff.mp e
    obtain ⟨ds, e2, e⟩ := Option.bind_eq_some_iff.mp e
    split at e
    · rename_i b1 d h1
      obtain ⟨z, e3, e⟩ := Option.bind_eq_some_iff.mp e
      split at e
      · rename_i hs0
        cases e
        obtain ⟨z0, e7⟩ := Option.isSome_iff_exists.mp hs0
        obtain ⟨a, ea, _, oa0⟩ := I.ow i b d0 h0
        refine ⟨_, ea, k1 _ H a d0 oa0 ⟨ds, z0, e7⟩, ?_⟩
        refine q2 N σ H ρ y.1 y.2 _ I e1 fun vs H2 g2 r2 => ?_
        obtain ⟨a2, ea2, _, oa⟩ := g2.env.ow i b1 d h1
        rw [ea] at ea2
        cases ea2
        have hb : b1 = b := by
          obtain ⟨d', e8⟩ := g2.shape.ow i b d0 h0
          rw [h1] at e8
          cases e8
          rfl
        subst hb
        have own : OwnS σ y.2 a := ⟨i, b1, d, h1, ea⟩
        refine k2 _ H2 a vs d ds z Q g2.env.domM (.inr own) oa (r2.repL e2) e3 fun o v on rv => ?_
        have gu := GoE.updS g2.env h1 ea on
        refine kk v _ (g2.trans gu) ?_
        show Rep G _ _ _ _
        rw [gu.mm]
        exact rv
      · cases e
    · cases e
  · cases e
end
/-! ### list methods -/
section
variable {G : Gx} {X : Cx}
theorem tyF_lst {K : PySem.W.Frag} {H : Hp} {a : Addr} {xs : List V} (h : H a = some (.lst xs)) : tyF K "list" (.ref a) H := .inl (.inl ⟨rfl, xs, .of h⟩)
noncomputable def gApp : D → List D → Option (D × D) := fun d ds => match d, ds with
  | .lst xs, [y] => if Grd (xs.length < sizeLine) then some (.lst (xs ++ [y]), .non) else none
  | _, _ => none
/-- what every change of a list gives -/
theorem mut_lst {M : Addr → Prop} {H : Hp} {a : Addr} {ws : List V} {es : List D} (hM : M a) (r : RepL G M H ws es) : OwnN G M (upd H a (.lst ws)) a (.lst es) :=
  .lst upd_same (r.mono (fun _ z => .inl z) fun c u e z => by rw [upd_ne (fun q => z (by rw [q]; exact hM))]; exact e)
theorem rep_upd {M : Addr → Prop} {H : Hp} {a : Addr} {o : HO} {v : V} {d : D} (hM : M a) (r : Rep G M H v d) : Rep G M (upd H a o) v d :=
  r.mono (fun _ z => .inl z) fun c u e z => by rw [upd_ne (fun q => z (by rw [q]; exact hM))]; exact e
theorem RepL.oneL {M : Addr → Prop} {H : Hp} {vs : List V} {d : D} (h : RepL G M H vs [d]) : ∃ v, vs = [v] ∧ Rep G M H v d := by
  cases h with
  | cons h t => cases t; exact ⟨_, rfl, h⟩
theorem m_append : VMutF G X "list" "list.append" gApp := by
  refine ⟨rAppend, mt_append, fun M H a d o ⟨ds, z, e⟩ => ?_, fun M H a vs d ds z Q hm hM o r e q => ?_⟩
  · unfold gApp at e
    split at e
    · cases o with | lst h1 h2 => exact tyF_lst h1
    · cases e
  · unfold gApp at e
    split at e
    · split at e
      · rename_i hz
        cases e
        obtain ⟨v, rfl, rv⟩ := r.oneL
        cases o with
        | lst h1 h2 => exact ⟨a, _, v, rfl, rfl, h1, by rw [h2.length]; exact hz, q _ _ (mut_lst hM (h2.append (.cons rv .nil))) .non⟩
      · cases e
    · cases e
noncomputable def gExt : D → List D → Option (D × D) := fun d ds => match d, ds with
  | .lst xs, [.lst ys] => if Grd (xs.length + ys.length ≤ sizeLine) then some (.lst (xs ++ ys), .non) else none
  | _, _ => none
theorem m_extend : VMutF G X "list" "list.extend" gExt := by
  refine ⟨rExtend, mt_extend, fun M H a d o ⟨ds, z, e⟩ => ?_, fun M H a vs d ds z Q hm hM o r e q => ?_⟩
  · unfold gExt at e
    split at e
    · cases o with | lst h1 h2 => exact tyF_lst h1
    · cases e
  · unfold gExt at e
    split at e
    · split at e
      · rename_i hz
        cases e
        obtain ⟨v, rfl, rv⟩ := r.oneL
        cases rv with
        | lst k0 k1 k2 =>
          cases o with
          | lst h1 h2 => exact ⟨a, _, _, _, rfl, rfl, h1, k1, by rw [h2.length, k2.length]; exact hz, q _ _ (mut_lst hM (h2.append k2)) .non⟩
      · cases e
    · cases e
def gPop : D → List D → Option (D × D) := fun d ds => match d, ds with
  | .lst xs, [] => (xs[xs.length - 1]?).bind fun y => some (.lst xs.dropLast, y)
  | _, _ => none
theorem m_pop : VMutF G X "list" "list.pop" gPop := by
  refine ⟨rPop, mt_pop, fun M H a d o ⟨ds, z, e⟩ => ?_, fun M H a vs d ds z Q hm hM o r e q => ?_⟩
  · unfold gPop at e
    split at e
    · cases o with | lst h1 h2 => exact tyF_lst h1
    · cases e
  · unfold gPop at e
    split at e
    · obtain ⟨y, e1, e⟩ := Option.bind_eq_some_iff.mp e
      cases e
      cases r
      cases o with
      | lst h1 h2 =>
        obtain ⟨v, e2, rv⟩ := h2.get e1
        exact ⟨a, _, v, rfl, rfl, h1, by rw [h2.length]; exact e2, q _ _ (mut_lst hM h2.dropLast) (rep_upd hM rv)⟩
    · cases e
noncomputable def gPopAt : D → List D → Option (D × D) := fun d ds => match d, ds with
  | .lst xs, [.int i] => if Grd (-(2 ^ 63) ≤ i ∧ i < 2 ^ 63) then (seqIndex? i xs.length).bind fun k => (xs[k]?).bind fun y => some (.lst (xs.eraseIdx k), y) else none
  | _, _ => none
theorem m_popAt : VMutF G X "list" "list.pop" gPopAt := by
  refine ⟨rPopAt, mt_popAt, fun M H a d o ⟨ds, z, e⟩ => ?_, fun M H a vs d ds z Q hm hM o r e q => ?_⟩
  · unfold gPopAt at e
    split at e
    · cases o with | lst h1 h2 => exact tyF_lst h1
    · cases e
  · unfold gPopAt at e
    split at e
    · split at e
      · rename_i hi
        obtain ⟨k, e1, e⟩ := Option.bind_eq_some_iff.mp e
        obtain ⟨y, e2, e⟩ := Option.bind_eq_some_iff.mp e
        cases e
        obtain ⟨v, rfl, rv⟩ := r.oneL
        cases rv
        cases o with
        | lst h1 h2 =>
          obtain ⟨v, e3, rv⟩ := h2.get e2
          exact ⟨a, _, _, k, v, rfl, rfl, h1, hi.1, hi.2, by rw [h2.length]; exact e1, e3, q _ _ (mut_lst hM (h2.eraseIdx k)) (rep_upd hM rv)⟩
      · cases e
    · cases e
noncomputable def gIns : D → List D → Option (D × D) := fun d ds => match d, ds with
  | .lst xs, [.int i, y] => if Grd (xs.length < sizeLine ∧ 0 ≤ i ∧ i < 2 ^ 63) then some (.lst (xs.take i.toNat ++ [y] ++ xs.drop i.toNat), .non) else none
  | _, _ => none
theorem m_insert : VMutF G X "list" "list.insert" gIns := by
  refine ⟨_, mt_insert, fun M H a d o ⟨ds, z, e⟩ => ?_, fun M H a vs d ds z Q hm hM o r e q => ?_⟩
  · unfold gIns at e
    split at e
    · cases o with | lst h1 h2 => exact tyF_lst h1
    · cases e
  · unfold gIns at e
    split at e
    · split at e
      · rename_i hi
        cases e
        cases r with
        | cons r1 r2 =>
          obtain ⟨v, rfl, rv⟩ := r2.oneL
          cases r1
          cases o with
          | lst h1 h2 => exact ⟨a, _, _, v, rfl, rfl, h1, by rw [h2.length]; exact hi.1, hi.2.1, hi.2.2, q _ _ (mut_lst hM (((h2.take _).append (.cons rv .nil)).append (h2.drop _))) .non⟩
      · cases e
    · cases e
def gRev : D → List D → Option (D × D) := fun d ds => match d, ds with
  | .lst xs, [] => some (.lst xs.reverse, .non)
  | _, _ => none
theorem m_reverse : VMutF G X "list" "list.reverse" gRev := by
  refine ⟨rReverse, mt_reverse, fun M H a d o ⟨ds, z, e⟩ => ?_, fun M H a vs d ds z Q hm hM o r e q => ?_⟩
  · unfold gRev at e
    split at e
    · cases o with | lst h1 h2 => exact tyF_lst h1
    · cases e
  · unfold gRev at e
    split at e
    · cases e
      cases r
      cases o with
      | lst h1 h2 => exact ⟨a, _, rfl, rfl, h1, q _ _ (mut_lst hM h2.reverse) .non⟩
    · cases e
/-! ### count, index, remove of data -/
def rCntD (K : PySem.W.Frag) (T : Bool) : V → List V → Hp → VK → Prop := fun x xs H Q => ∃ (y : V) (d : PyData) (ds : List PyData), xs = [y] ∧ Dp K H x (if T then .tuple ds else .list ds) ∧ Dp K H y d ∧ SeqAt.shaped (.list ds) = true ∧ SeqAt.shaped d = true ∧ Q (.int ((ds.countP fun z => PyData.eqv z d : Nat) : Int)) H
theorem mt_countD (hu : X.A.units + 65 < cLine) : MtR X "list.count" (rCntD X.K false) := by
  intro pins s σ H x xs v us Q I rx rxs h
  obtain ⟨y, d, ds, rfl, hl, hy, sl, sd, q⟩ := h
  obtain ⟨uy, rfl, ry⟩ := rxs.one
  obtain ⟨bs, r1⟩ := Dp.reads I d y uy hy ry
  have hxs := plainAll_of_lay (SeqAt.canLay_of_shaped sl : PyData.canLayAll0 ds = true)
  have hroom : X.A.units + 1 + min (PyData.depthAll ds) d.depth < cLine := room_in_shaped sd hu
  cases hl with
  | lst hs ha =>
    cases rx
    obtain ⟨its, rv, pl, hz⟩ := I.list hs
    obtain ⟨as, h4⟩ := Dp.readsAll I ds _ its ha rv
    exact SeqAt.count_list_data pl.isList h4 r1 hxs (PyData.plain_of_canLay0 d (SeqAt.canLay_of_shaped sd)) hroom ⟨.int _, H, I.tok _, ⟨_, rfl⟩, q⟩
theorem mt_countT (hu : X.A.units + 65 < cLine) : MtR X "tuple.count" (rCntD X.K true) := by
  intro pins s σ H x xs v us Q I rx rxs h
  obtain ⟨y, d, ds, rfl, hl, hy, sl, sd, q⟩ := h
  obtain ⟨uy, rfl, ry⟩ := rxs.one
  obtain ⟨bs, r1⟩ := Dp.reads I d y uy hy ry
  have hxs := plainAll_of_lay (SeqAt.canLay_of_shaped sl : PyData.canLayAll0 ds = true)
  have hroom : X.A.units + 1 + min (PyData.depthAll ds) d.depth < cLine := room_in_shaped sd hu
  cases hl with
  | tup hs ha =>
    cases rx
    obtain ⟨its, rv, pl, hz⟩ := I.tuple hs
    obtain ⟨as, h4⟩ := Dp.readsAll I ds _ its ha rv
    exact SeqAt.count_tuple_data pl h4 r1 hxs (PyData.plain_of_canLay0 d (SeqAt.canLay_of_shaped sd)) hroom ⟨.int _, H, I.tok _, ⟨_, rfl⟩, q⟩
def rIdxD (K : PySem.W.Frag) (T : Bool) : V → List V → Hp → VK → Prop := fun x xs H Q => ∃ (y : V) (d : PyData) (ds : List PyData) (j : Nat), xs = [y] ∧ Dp K H x (if T then .tuple ds else .list ds) ∧ Dp K H y d ∧ SeqAt.shaped (.list ds) = true ∧ SeqAt.shaped d = true ∧ SeqAt.dataPlace ds d = some j ∧ Q (.int (j : Nat)) H
theorem mt_idxL (hu : X.A.units + 65 < cLine) : MtR X "list.index" (rIdxD X.K false) := by
  intro pins s σ H x xs v us Q I rx rxs h
  obtain ⟨y, d, ds, j, rfl, hl, hy, sl, sd, hj, q⟩ := h
  obtain ⟨uy, rfl, ry⟩ := rxs.one
  obtain ⟨bs, r1⟩ := Dp.reads I d y uy hy ry
  have hxs := plainAll_of_lay (SeqAt.canLay_of_shaped sl : PyData.canLayAll0 ds = true)
  have hroom : X.A.units + 1 + min (PyData.depthAll ds) d.depth < cLine := room_in_shaped sd hu
  cases hl with
  | lst hs ha =>
    cases rx
    obtain ⟨its, rv, pl, hz⟩ := I.list hs
    obtain ⟨as, h4⟩ := Dp.readsAll I ds _ its ha rv
    exact SeqAt.dl_index_list pl.isList h4 r1 hxs (PyData.plain_of_canLay0 d (SeqAt.canLay_of_shaped sd)) hroom hj (by rw [List.size_toArray, ← rv.length]; exact hz) ⟨.int _, H, I.tok _, ⟨_, rfl⟩, q⟩
theorem mt_idxT (hu : X.A.units + 65 < cLine) : MtR X "tuple.index" (rIdxD X.K true) := by
  intro pins s σ H x xs v us Q I rx rxs h
  obtain ⟨y, d, ds, j, rfl, hl, hy, sl, sd, hj, q⟩ := h
  obtain ⟨uy, rfl, ry⟩ := rxs.one
  obtain ⟨bs, r1⟩ := Dp.reads I d y uy hy ry
  have hxs := plainAll_of_lay (SeqAt.canLay_of_shaped sl : PyData.canLayAll0 ds = true)
  have hroom : X.A.units + 1 + min (PyData.depthAll ds) d.depth < cLine := room_in_shaped sd hu
  cases hl with
  | tup hs ha =>
    cases rx
    obtain ⟨its, rv, pl, hz⟩ := I.tuple hs
    obtain ⟨as, h4⟩ := Dp.readsAll I ds _ its ha rv
    exact SeqAt.dl_index_tuple pl h4 r1 hxs (PyData.plain_of_canLay0 d (SeqAt.canLay_of_shaped sd)) hroom hj ⟨.int _, H, I.tok _, ⟨_, rfl⟩, q⟩
def rRemD (K : PySem.W.Frag) : V → List V → Hp → VK → Prop := fun x xs H Q => ∃ (a : Addr) (ws : List V) (y : V) (d : PyData) (ds : List PyData) (j : Nat), x = .ref a ∧ xs = [y] ∧ H a = some (.lst ws) ∧ DpAll K H ws ds ∧ Dp K H y d ∧ SeqAt.shaped (.list ds) = true ∧ SeqAt.shaped d = true ∧ SeqAt.dataPlace ds d = some j ∧ Q .non (upd H a (.lst (ws.eraseIdx j)))
theorem mt_remD (hu : X.A.units + 65 < cLine) : MtR X "list.remove" (rRemD X.K) := by
  intro pins s σ H x xs v us Q I rx rxs h
  obtain ⟨a, ws, y, d, ds, j, rfl, rfl, hH, ha, hy, sl, sd, hj, q⟩ := h
  cases rx
  obtain ⟨uy, rfl, ry⟩ := rxs.one
  obtain ⟨bs, r1⟩ := Dp.reads I d y uy hy ry
  have hxs := plainAll_of_lay (SeqAt.canLay_of_shaped sl : PyData.canLayAll0 ds = true)
  have hroom : X.A.units + 1 + min (PyData.depthAll ds) d.depth < cLine := room_in_shaped sd hu
  obtain ⟨z, its, n, r, hl, e⟩ := I.lstM hH
  obtain ⟨as, h4⟩ := Dp.readsAll I ds _ its ha r
  refine SeqAt.remove_list_data (vs := its.toArray) ⟨_, e, rfl, n, rfl⟩ h4 r1 hxs (PyData.plain_of_canLay0 d (SeqAt.canLay_of_shaped sd)) hroom hj (by rw [List.size_toArray]; omega) ?_
  refine ⟨.non, _, I.lset (its' := its.eraseIdx j) (t' := s.toks) hH e ?_ (r.eraseIdx j) ?_, rfl, q⟩
  · show its.toArray.eraseIdxIfInBounds j = (its.eraseIdx j).toArray
    rw [List.eraseIdxIfInBounds_toArray]
  · have z2 := len_erase ws j
    omega
/-- flat enough for the questions about items -/
def okD (ds : List D) (y : D) : Bool := fltL 59 ds && y.flt 60
theorem okD_at {ds : List D} {y : D} (h : okD ds y = true) : fltL 59 ds = true ∧ y.flt 60 = true := by unfold okD at h; rwa [Bool.and_eq_true] at h
theorem shaped_lst {ds : List D} (h : fltL 59 ds = true) : SeqAt.shaped (.list (pyL ds)) = true := by
  have := flt_shaped (flt_lst h)
  simpa only [D.py] using this
def gCnt : D → List D → Option D := fun d ds => match d, ds with
  | .lst xs, [y] => if okD xs y then some (.int ((pyL xs).countP fun z => PyData.eqv z y.py)) else none
  | _, _ => none
def gCntT : D → List D → Option D := fun d ds => match d, ds with
  | .tup xs, [y] => if okD xs y then some (.int ((pyL xs).countP fun z => PyData.eqv z y.py)) else none
  | _, _ => none
def gIdx : D → List D → Option D := fun d ds => match d, ds with
  | .lst xs, [y] => if okD xs y then (SeqAt.dataPlace (pyL xs) y.py).bind fun j => some (.int (j : Nat)) else none
  | _, _ => none
def gIdxT : D → List D → Option D := fun d ds => match d, ds with
  | .tup xs, [y] => if okD xs y then (SeqAt.dataPlace (pyL xs) y.py).bind fun j => some (.int (j : Nat)) else none
  | _, _ => none
def gRem : D → List D → Option (D × D) := fun d ds => match d, ds with
  | .lst xs, [y] => if okD xs y then (SeqAt.dataPlace (pyL xs) y.py).bind fun j => some (.lst (xs.eraseIdx j), .non) else none
  | _, _ => none
theorem RepT.tyT {M : Addr → Prop} {H : Hp} {v : V} {ds : List D} {K : PySem.W.Frag} (r : RepT G M H v (.tup ds)) : tyF K "tuple" v H := by
  obtain ⟨a, o, xs, rfl, h1, h0, _⟩ := r.tup
  exact .inr ⟨rfl, a, o, xs, rfl, h1, h0⟩
theorem RepT.tyL {M : Addr → Prop} {H : Hp} {v : V} {ds : List D} {K : PySem.W.Frag} (r : RepT G M H v (.lst ds)) : tyF K "list" v H := by
  obtain ⟨a, xs, rfl, h1, _⟩ := r.lst
  exact tyF_lst h1
theorem RepT.dpL {M : Addr → Prop} {H : Hp} {v : V} {ds : List D} {K : PySem.W.Frag} (h : fltL 59 ds = true) (r : RepT G M H v (.lst ds)) : Dp K H v (.list (pyL ds)) := by
  have := r.dp (K := K) (flt_lst h)
  simpa only [D.py] using this
theorem RepT.dpT {M : Addr → Prop} {H : Hp} {v : V} {ds : List D} {K : PySem.W.Frag} (h : fltL 59 ds = true) (r : RepT G M H v (.tup ds)) : Dp K H v (.tuple (pyL ds)) := by
  have := r.dp (K := K) (n := 60) (show (D.tup ds).flt 60 = true by simpa [D.flt] using h)
  simpa only [D.py] using this
theorem m_count (hu : X.A.units + 65 < cLine) : VMetF G X "list" "list.count" gCnt := by
  refine ⟨_, mt_countD hu, fun M H x dx ds d r e => ?_, fun M H x vs dx ds d Q hm rx r e q => ?_⟩
  · unfold gCnt at e
    split at e
    · exact r.tyL
    · cases e
  · unfold gCnt at e
    split at e
    · split at e
      · rename_i hz
        cases e
        obtain ⟨v, rfl, rv⟩ := r.one
        obtain ⟨h1, h2⟩ := okD_at hz
        exact ⟨v, _, _, rfl, rx.dpL h1, rv.dp h2, shaped_lst h1, flt_shaped h2, q _ H (.refl H) (.int _)⟩
      · cases e
    · cases e
theorem m_countT (hu : X.A.units + 65 < cLine) : VMetF G X "tuple" "tuple.count" gCntT := by
  refine ⟨_, mt_countT hu, fun M H x dx ds d r e => ?_, fun M H x vs dx ds d Q hm rx r e q => ?_⟩
  · unfold gCntT at e
    split at e
    · exact r.tyT
    · cases e
  · unfold gCntT at e
    split at e
    · split at e
      · rename_i hz
        cases e
        obtain ⟨v, rfl, rv⟩ := r.one
        obtain ⟨h1, h2⟩ := okD_at hz
        exact ⟨v, _, _, rfl, rx.dpT h1, rv.dp h2, shaped_lst h1, flt_shaped h2, q _ H (.refl H) (.int _)⟩
      · cases e
    · cases e
theorem m_index (hu : X.A.units + 65 < cLine) : VMetF G X "list" "list.index" gIdx := by
  refine ⟨_, mt_idxL hu, fun M H x dx ds d r e => ?_, fun M H x vs dx ds d Q hm rx r e q => ?_⟩
  · unfold gIdx at e
    split at e
    · exact r.tyL
    · cases e
  · unfold gIdx at e
    split at e
    · split at e
      · rename_i hz
        obtain ⟨j, e1, e⟩ := Option.bind_eq_some_iff.mp e
        cases e
        obtain ⟨v, rfl, rv⟩ := r.one
        obtain ⟨h1, h2⟩ := okD_at hz
        exact ⟨v, _, _, j, rfl, rx.dpL h1, rv.dp h2, shaped_lst h1, flt_shaped h2, e1, q _ H (.refl H) (.int _)⟩
      · cases e
    · cases e
theorem m_indexT (hu : X.A.units + 65 < cLine) : VMetF G X "tuple" "tuple.index" gIdxT := by
  refine ⟨_, mt_idxT hu, fun M H x dx ds d r e => ?_, fun M H x vs dx ds d Q hm rx r e q => ?_⟩
  · unfold gIdxT at e
    split at e
    · exact r.tyT
    · cases e
  · unfold gIdxT at e
    split at e
    · split at e
      · rename_i hz
        obtain ⟨j, e1, e⟩ := Option.bind_eq_some_iff.mp e
        cases e
        obtain ⟨v, rfl, rv⟩ := r.one
        obtain ⟨h1, h2⟩ := okD_at hz
        exact ⟨v, _, _, j, rfl, rx.dpT h1, rv.dp h2, shaped_lst h1, flt_shaped h2, e1, q _ H (.refl H) (.int _)⟩
      · cases e
    · cases e
theorem m_remove (hu : X.A.units + 65 < cLine) : VMutF G X "list" "list.remove" gRem := by
  refine ⟨_, mt_remD hu, fun M H a d o ⟨ds, z, e⟩ => ?_, fun M H a vs d ds z Q hm hM o r e q => ?_⟩
  · unfold gRem at e
    split at e
    · cases o with | lst h1 h2 => exact tyF_lst h1
    · cases e
  · unfold gRem at e
    split at e
    · split at e
      · rename_i hz
        obtain ⟨j, e1, e⟩ := Option.bind_eq_some_iff.mp e
        cases e
        obtain ⟨v, rfl, rv⟩ := r.oneL
        obtain ⟨k1, k2⟩ := okD_at hz
        cases o with
        | lst h1 h2 => exact ⟨a, _, v, _, _, j, rfl, rfl, h1, h2.dp 59 _ _ k1, rv.dp 60 _ _ k2, shaped_lst k1, flt_shaped k2, e1, q _ _ (mut_lst hM (h2.eraseIdx j)) .non⟩
      · cases e
    · cases e
/-! ### in, of tuples -/
def rInTD (K : PySem.W.Frag) (neg : Bool) : R2 := fun x y H Q => ∃ d ds, Dp K H x d ∧ Dp K H y (.tuple ds) ∧ SeqAt.shaped d = true ∧ SeqAt.shaped (.list ds) = true ∧ Q (.bl (if neg then !ds.any fun z => PyData.eqv z d else ds.any fun z => PyData.eqv z d)) H
theorem op_inTD (hu : X.A.units + 65 < cLine) : OpR X (compareOp .In) (rInTD X.K false) := by
  intro pins s σ H x y v u Q I rx ry h
  obtain ⟨d, ds, hd, he, sd, se, q⟩ := h
  obtain ⟨as, r1⟩ := Dp.reads I d x v hd rx
  obtain ⟨bs, r2⟩ := Dp.reads I (.tuple ds) y u he ry
  exact SeqAt.in_tuple_reads r2 r1 (SeqAt.canLay_of_shaped se : PyData.canLayAll0 ds = true) (SeqAt.canLay_of_shaped sd) (room_in_shaped sd hu) ⟨.bl _, H, I, rfl, q⟩
theorem op_notInTD (hu : X.A.units + 65 < cLine) : OpR X (compareOp .NotIn) (rInTD X.K true) := by
  intro pins s σ H x y v u Q I rx ry h
  obtain ⟨d, ds, hd, he, sd, se, q⟩ := h
  obtain ⟨as, r1⟩ := Dp.reads I d x v hd rx
  obtain ⟨bs, r2⟩ := Dp.reads I (.tuple ds) y u he ry
  exact SeqAt.notIn_tuple_reads r2 r1 (SeqAt.canLay_of_shaped se : PyData.canLayAll0 ds = true) (SeqAt.canLay_of_shaped sd) (room_in_shaped sd hu) ⟨.bl _, H, I, rfl, q⟩
def dInT : D → D → Option D := fun a b => match b with
  | .tup ds => if okD ds a then some (.bl ((pyL ds).any fun z => PyData.eqv z a.py)) else none
  | _ => none
def dNotInT : D → D → Option D := fun a b => match b with
  | .tup ds => if okD ds a then some (.bl (!(pyL ds).any fun z => PyData.eqv z a.py)) else none
  | _ => none
theorem v_inT (hu : X.A.units + 65 < cLine) : VOp G X (compareOp .In) dInT := by
  refine ⟨_, op_inTD hu, fun M H x y dx dy d Q hm rx ry e q => ?_⟩
  unfold dInT at e
  split at e
  · split at e
    · rename_i h
      cases e
      obtain ⟨h1, h2⟩ := okD_at h
      exact ⟨_, _, rx.dp h2, ry.dpT h1, flt_shaped h2, shaped_lst h1, q _ H (.refl H) (.bl _)⟩
    · cases e
  · cases e
theorem v_notInT (hu : X.A.units + 65 < cLine) : VOp G X (compareOp .NotIn) dNotInT := by
  refine ⟨_, op_notInTD hu, fun M H x y dx dy d Q hm rx ry e q => ?_⟩
  unfold dNotInT at e
  split at e
  · split at e
    · rename_i h
      cases e
      obtain ⟨h1, h2⟩ := okD_at h
      exact ⟨_, _, rx.dp h2, ry.dpT h1, flt_shaped h2, shaped_lst h1, q _ H (.refl H) (.bl _)⟩
    · cases e
  · cases e
end
end DL

set_option maxRecDepth 100000
namespace DL
open PySem PySem.Spec PyProof.Rows L2
section
variable {G : Gx} {X : Cx} {a b e : Expr} {f f2 : FE} {sts : List Stmt} {s : FS} {p pos : Pos}
/-! ### an own thing is from here on a value -/
theorem Go.freeze {N : Addr → Prop} {H : Hp} {σ : L2.St} {ρ : Ev} {i : Nat} {d : D} (I : EnvOk G N H σ ρ) (h : ρ[i]? = some (.ow false d)) : Go G N σ ρ H σ (ρ.set i (.imm d)) H := by
  have hl : i < ρ.length := (List.getElem?_eq_some_iff.mp h).1
  obtain ⟨a, ea, na, oa⟩ := I.ow i false d h
  have hO : ∀ c, OwnS σ (ρ.set i (.imm d)) c → OwnS σ ρ c := fun c z => z.un (fun _ _ z => by cases z)
  have hM : ∀ c, MM N σ (ρ.set i (.imm d)) c → MM N σ ρ c := fun c z => z.elim .inl fun z => .inr (hO c z)
  have nM : ¬ MM N σ (ρ.set i (.imm d)) a := fun z => by
    rcases z with z | ⟨j, b, d', e1, e2⟩
    · exact na z
    · rcases set_get e1 with ⟨_, e, _⟩ | ⟨hj, e1⟩
      · cases e
      · exact hj (I.ne j i b false d' d a e1 h e2 ea)
  refine ⟨⟨by rw [List.length_set]; exact I.len, I.dom, fun j d' e => ?_, fun j b d' e => ?_, fun j l b b' d1 d2 c h1 h2 h3 h4 => ?_⟩, fun _ _ e _ => e, fun _ h => h, fun c z => .inl (hO c z), fun j d' e => ⟨⟨d', ?_⟩, rfl⟩⟩
  · rcases set_get e with ⟨rfl, e, _⟩ | ⟨_, e⟩
    · cases e
      exact ⟨_, ea, (oa.mono (M' := MM N σ (ρ.set j (.imm d))) (fun c z => .inl (hM c z)) (fun _ _ e _ => e) rfl).rep nM⟩
    · obtain ⟨v, e1, r⟩ := I.imm j d' e
      exact ⟨v, e1, r.mono (fun c z => .inl (hM c z)) fun _ _ e _ => e⟩
  · rcases set_get e with ⟨_, e, _⟩ | ⟨_, e⟩
    · cases e
    · obtain ⟨c, e1, n, o⟩ := I.ow j b d' e
      exact ⟨c, e1, n, o.mono (fun c z => .inl (hM c z)) (fun _ _ e _ => e) rfl⟩
  · rcases set_get h1 with ⟨_, e, _⟩ | ⟨_, h1⟩
    · cases e
    · rcases set_get h2 with ⟨_, e, _⟩ | ⟨_, h2⟩
      · cases e
      · exact I.ne j l b b' d1 d2 c h1 h2 h3 h4
  · have hj : i ≠ j := fun z => by rw [← z, h] at e; cases e
    rw [List.getElem?_set_ne hj]
    exact e
def frzE (i : Nat) (ρ : Ev) : Option Ev := match ρ[i]? with
  | some (.ow false d) => some (ρ.set i (.imm d))
  | _ => none
theorem DSs.frz (i : Nat) (h : DSs G X sts s) : DSs G X sts (fun ρ => (frzE i ρ).bind s) := by
  obtain ⟨t, p, q⟩ := h.ex
  refine ⟨t, p, fun N σ H ρ o E I e w => ?_⟩
  obtain ⟨ρ1, e1, e⟩ := Option.bind_eq_some_iff.mp e
  unfold frzE at e1
  split at e1
  · rename_i d hd
    cases e1
    have g := Go.freeze I hd
    exact q N σ H _ o E g.env e (w.on g)
  · cases e1
/-- a statement that is not reached -/
def sNever : FS := fun _ => none
theorem DS.never {st : Stmt} : DS G X st sNever := ⟨fun _ _ _ => False, ⟨fun pins s σ H E I h => h.elim⟩, fun N σ H ρ o E I e w => by cases e⟩

/-! ### list(range(..)), tuple(range(..)) -/
theorem rgV_rep {M : Addr → Prop} {H : Hp} (lo hi : Int) : RepL G M H (rgV lo hi) (rgD lo (hi - lo).toNat) := by
  unfold rgV rgD
  generalize (List.range (hi - lo).toNat) = l
  induction l with
  | nil => exact .nil
  | cons x l ih => exact .cons (.int _) ih
noncomputable def okRg (i j : Int) : Bool := decide (Grd (RgOk i j))
theorem okRg_at {i j : Int} (h : okRg i j = true) : RgOk i j := by
  unfold okRg at h
  have h := of_decide_eq_true h
  exact h
noncomputable def xRg1 (f : FE) : Ev → Option ((Int × Int) × Ev) := fun ρ => (f ρ).bind fun z => (z.1.rd z.2).bind fun d => match d with
  | .int j => if okRg 0 j then some ((0, j), z.2) else none
  | _ => none
noncomputable def xRg2 (f f2 : FE) : Ev → Option ((Int × Int) × Ev) := fun ρ => (f ρ).bind fun z => (f2 z.2).bind fun y => (z.1.rd y.2).bind fun d => (y.1.rd y.2).bind fun d2 => match d, d2 with
  | .int i, .int j => if okRg i j then some ((i, j), y.2) else none
  | _, _ => none
structure DRg (G : Gx) (X : Cx) (e : Expr) (f : Ev → Option ((Int × Int) × Ev)) : Prop where
  ex : ∃ t, PRg X e t ∧ ∀ N σ H ρ z ρ' (Q : Int → Int → Hp → Prop), EnvOk G N H σ ρ → f ρ = some (z, ρ') → (∀ H', GoE G N σ ρ H ρ' H' → RgOk z.1 z.2 → Q z.1 z.2 H') → t σ H Q
theorem DRg.one (hg : Gl X "range") (hm : X.mg "range" = none) (h : DE G X a f) (na : starEach [a] X.env = (false, eval a X.env) :: starEach [] X.env) : DRg G X (.Call (.Name "range" p) [a] [] pos) (xRg1 f) := by
  obtain ⟨t, pt, q⟩ := h.ex
  refine ⟨_, prg_1 hg hm pt na, fun N σ H ρ z ρ' Q I e k => ?_⟩
  obtain ⟨⟨r, ρ1⟩, e1, e⟩ := Option.bind_eq_some_iff.mp e
  obtain ⟨d, e2, e⟩ := Option.bind_eq_some_iff.mp e
  split at e
  · split at e
    · rename_i hb
      cases e
      exact q N σ H ρ r ρ1 _ I e1 fun v H1 g rr => ⟨_, (rr.repT g.env e2).int, k H1 g (okRg_at hb)⟩
    · cases e
  · cases e
theorem DRg.two (hg : Gl X "range") (hm : X.mg "range" = none) (h : DE G X a f) (h2 : DE G X b f2) (na : starEach [a, b] X.env = (false, eval a X.env) :: starEach [b] X.env)
    (nb : starEach [b] X.env = (false, eval b X.env) :: starEach [] X.env) (hp : (backTo pos (starEach [b] X.env)).any (·.1) = false) : DRg G X (.Call (.Name "range" p) [a, b] [] pos) (xRg2 f f2) := by
  obtain ⟨t, pt, q⟩ := h.ex
  obtain ⟨t2, pt2, q2⟩ := h2.ex
  refine ⟨_, prg_2 hg hm pt pt2 na nb hp, fun N σ H ρ z ρ' Q I e k => ?_⟩
  obtain ⟨z1, e1, e⟩ := Option.bind_eq_some_iff.mp e
  obtain ⟨z2, e2, e⟩ := Option.bind_eq_some_iff.mp e
  obtain ⟨d1, e3, e⟩ := Option.bind_eq_some_iff.mp e
  obtain ⟨d2, e4, e⟩ := Option.bind_eq_some_iff.mp e
  split at e
  · split at e
    · rename_i hb
      cases e
      exact two_run q q2 I e1 e2 e3 e4 fun x y H2 g rx ry => ⟨_, _, rx.int, ry.int, k H2 g (okRg_at hb)⟩
    · cases e
  · cases e
def xLstRg (f : Ev → Option ((Int × Int) × Ev)) : FN := fun ρ => (f ρ).bind fun z => some (.lst (rgD z.1.1 (z.1.2 - z.1.1).toNat), z.2)
def xTupRg (f : Ev → Option ((Int × Int) × Ev)) : FE := fun ρ => (f ρ).bind fun z => some (.val (.tup (rgD z.1.1 (z.1.2 - z.1.1).toNat)), z.2)
variable {fr : Ev → Option ((Int × Int) × Ev)}
theorem DN.listRg (hc : X.calm = true) (hg : Gl X "list") (hm : X.mg "list" = none) (h : DRg G X e fr) (na : starEach [e] X.env = (false, eval e X.env) :: starEach [] X.env) : DN G X (.Call (.Name "list" p) [e] [] pos) (xLstRg fr) := by
  obtain ⟨t, pt, q⟩ := h.ex
  refine ⟨_, pe_listRg hc hg hm pt na, fun N σ H ρ d ρ' Q I e k => ?_⟩
  obtain ⟨z, e1, e⟩ := Option.bind_eq_some_iff.mp e
  cases e
  refine q N σ H ρ z.1 z.2 _ I e1 fun H1 g ok => ⟨ok, fun p hp => ?_⟩
  obtain ⟨gn, hp0⟩ := g.newN (same_new (o := .lst (rgV z.1.1 z.1.2)) hp) hp (by rw [upd_same]; exact (fun z => nomatch z))
  exact k p _ gn hp0 (new_lst hp (rgV_rep _ _))
theorem DE.tupRg (hc : X.calm = true) (hg : Gl X "tuple") (hm : X.mg "tuple" = none) (h : DRg G X e fr) (na : starEach [e] X.env = (false, eval e X.env) :: starEach [] X.env) : DE G X (.Call (.Name "tuple" p) [e] [] pos) (xTupRg fr) := by
  obtain ⟨t, pt, q⟩ := h.ex
  refine ⟨_, pe_tupRgF hc hg hm pt na, fun N σ H ρ d ρ' Q I e k => ?_⟩
  obtain ⟨z, e1, e⟩ := Option.bind_eq_some_iff.mp e
  cases e
  refine q N σ H ρ z.1 z.2 _ I e1 fun H1 g ok => ⟨ok, fun p o hp ho => ?_⟩
  exact k _ _ (g.trans (GoE.grow g.env (same_new hp))) (new_tup g.env.domM hp ho (rgV_rep _ _))

/-! ### a, b = x, y -/
def sPar (i j : Nat) (h : FA) : FS := fun ρ => (h ρ).bind fun z => (vals z.1).bind fun ds => match ds with
  | [d1, d2] => if freeAt z.2 i && freeAt (z.2.set i (.imm d1)) j then some (.nx ((z.2.set i (.imm d1)).set j (.imm d2))) else none
  | _ => none
theorem DS.par {i j : Nat} {x y : Str} {h : FA} {px py pt : Pos} {kt k2 pt2} (hc : X.calm = true) (hN : X.N.Nodup) (hi : X.N[i]? = some x) (hj : X.N[j]? = some y) (hij : i ≠ j)
    (hx : X.env.scope.names.lookup x = some .local) (hy : X.env.scope.names.lookup y = some .local) (ha : DA G X [a, b] h)
    (hw : swappedStores [.Tuple [.Name x px, .Name y py] kt pt] (.Tuple [a, b] k2 pt2) X.env = pure (some [x, y]))
    (hs : swapsWithSole [.Tuple [.Name x px, .Name y py] kt pt] (.Tuple [a, b] k2 pt2) pos.line X.env = pure false) :
    DS G X (.Assign [.Tuple [.Name x px, .Name y py] kt pt] (.Tuple [a, b] k2 pt2) pos) (sPar i j h) := by
  obtain ⟨t, p, q⟩ := ha.ex
  refine ⟨_, ps_par hc hN hi hj hij hx hy p hw hs, fun N σ H ρ o E I e w => ?_⟩
  obtain ⟨z, e1, e⟩ := Option.bind_eq_some_iff.mp e
  obtain ⟨ds, e2, e⟩ := Option.bind_eq_some_iff.mp e
  split at e
  · rename_i d1 d2
    split at e
    · rename_i hf
      rw [Bool.and_eq_true] at hf
      cases e
      refine q N σ H ρ z.1 z.2 _ I e1 fun vs H1 g r1 => ?_
      have rl := r1.repL e2
      cases rl with
      | cons k1 rl =>
        cases rl with
        | cons k2 rl =>
          cases rl
          have g1 := Go.setI g.env hf.1 k1
          have g2 := Go.setI g1.env hf.2 (g1.rep k2)
          exact ⟨_, _, rfl, w _ H1 (g.go.trans (g1.trans g2))⟩
    · cases e
  · cases e
end
end DL

set_option maxRecDepth 100000
namespace DL
open PySem PySem.Spec PyProof.Rows L2
/-! ### the rules in short, side conditions by themselves -/
structure NoG (mg : Str → Option Value) : Prop where
  len : mg "len" = none
  abs : mg "abs" = none
  int : mg "int" = none
  range : mg "range" = none
  list : mg "list" = none
  tuple : mg "tuple" = none
  sorted : mg "sorted" = none
  min : mg "min" = none
  max : mg "max" = none
  sum : mg "sum" = none
  any : mg "any" = none
  all : mg "all" = none
  isinstance : mg "isinstance" = none
  set : mg "set" = none
  bool : mg "bool" = none
  str : mg "str" = none
  dict : mg "dict" = none
  zip : mg "zip" = none
  enumerate : mg "enumerate" = none
  reversed : mg "reversed" = none
theorem hu_of {k : Nat} {A : Around} (hr : Room k A) : A.units + 65 < cLine := by
  have := hr.un
  omega
/-- a def as the top has left it -/
structure Df (K : PySem.W.Frag) (mg : Str → Option Value) (x : Str) (st : Stmt) (ps : List Str) : Prop where
  ex : ∃ f fd, Fun K x x st f fd ∧ mg x = some (.ref f) ∧ Binds K fd ps []
structure CallOk (P : Program) (w : World) (K : PySem.W.Frag) (mg : Str → Option Value) (base : Heap) (G : Gx) (k : Nat) (x : Str) (ps : List Str) (nw : Bool) (m : FD) : Prop where
  ex : ∃ f fd, FnOk P w K mg base CX0 k f fd ps (spD G nw m) ∧ mg x = some (.ref f) ∧ PySem.W.keepIn K (.ref f) = true ∧ Binds K fd ps []
section
variable {P : Program} {w : World} {K : PySem.W.Frag} {mg : Str → Option Value} {base : Heap} {G : Gx}
theorem CallOk.mono {j k : Nat} {x : Str} {ps : List Str} {nw : Bool} {m : FD} (C : CallOk P w K mg base G j x ps nw m) (h : j ≤ k) : CallOk P w K mg base G k x ps nw m := by
  obtain ⟨f, fd, h1, h2, h3, h4⟩ := C.ex
  exact ⟨f, fd, h1.mono h, h2, h3, h4⟩
theorem callOk {x : Str} {st : Stmt} {Nm ps : List Str} {k : Nat} {nw : Bool} {s : FS} (F : Df K mg x st ps) (S : FnScope Nm ps (defScope st)) (hNm : ps.length ≤ Nm.length)
    (body : ∀ (f : Addr) (cdv : Value) (A : Around) (outer : List Env) (sh : Shared) (H : Hp) (E : XK), Room k (A.deeper (envOfC x (defScope st) sh.heap.objs.size f cdv)) →
      DSs G (cxOf CX0 P w K mg base Nm x (defScope st) f cdv A outer sh H E).nox (defBody st) s) :
    CallOk P w K mg base G (k + 1) x ps nw (fnD nw ps.length (Nm.length - ps.length) s) := by
  obtain ⟨f, fd, h1, h2, h3⟩ := F.ex
  exact ⟨f, fd, fnD_ok h1 S hNm (body f), h2, h1.kp, h3⟩
/-- at no depth: nothing is promised -/
theorem CallOk.never {x : Str} {st : Stmt} {ps : List Str} {nw : Bool} {k : Nat} (F : Df K mg x st ps) : CallOk P w K mg base G k x ps nw (fun _ => none) := by
  obtain ⟨f, fd, h1, h2, h3⟩ := F.ex
  refine ⟨f, fd, ⟨fun vs H Q E h => ?_, fun A outer s H args us vs Q E _ _ _ _ h => ?_⟩, h2, h1.kp, h3⟩
  · obtain ⟨N, ρ, d, ρ', _, _, e, _⟩ := h
    cases e
  · obtain ⟨N, ρ, d, ρ', _, _, e, _⟩ := h
    cases e
end
section
variable {G : Gx} {X : Cx} {a b c e : Expr} {es : List Expr} {f f1 f2 : FE} {h : FA} {k : FT} {pos p : Pos} {x : Str}
theorem e_nm (i : Nat) (hN : X.N[i]? = some x := by rfl) (hv : Vis X.env.scope x := by first | exact Or.inl rfl | exact Or.inr (Or.inl rfl) | exact Or.inr (Or.inr rfl)) (hd : (x == ("__debug__" : Str)) = false := by decide)
    (hcd : (x == ("__classdict__" : Str)) = false := by decide) : DE G X (.Name x pos) (xName i) := DE.name i hN hv hd hcd
theorem a_cons {g : FA} (h : DE G X e f) (k : DA G X es g) (hs : starEach (e :: es) X.env = (false, eval e X.env) :: starEach es X.env := by rfl) : DA G X (e :: es) (aCons f g) := DA.cons h k hs
theorem e_cmp {op : CmpOp} {g : D → D → Option D} (h : VOp G X (compareOp op) g) (ha : DE G X a f1) (hb : DE G X b f2) (hm : behindInMarks op b = false := by first | exact nomark _ | rfl) : DE G X (.Compare a [op] [b] pos) (xBin g f1 f2) := DE.cmp h ha hb hm
theorem t_cmp {op : CmpOp} {g : D → D → Option D} (h : VOp G X (compareOp op) g) (ha : DE G X a f1) (hb : DE G X b f2) (hm : behindInMarks op b = false := by first | exact nomark _ | rfl) : DT G X (.Compare a [op] [b] pos) (xBinT g f1 f2) := DT.cmp h ha hb hm
theorem e_ix (ha : DE G X a f1) (hb : DE G X b f2) (hs : PlainIx b := by exact fun _ _ => rfl) (hK : G.K = X.K := by rfl) : DE G X (.Subscript a b pos) (xBin dIx f1 f2) := DE.ix ha hb hs hK
theorem e_cb {id : String} {g : List D → Option D} (hc : VCall G X (.builtin id) g) (hm : X.mg x = none) (hv : bootBuiltins x = some (.builtin id)) (ha : DA G X (e :: es) h) (hg : Gl X x := by rfl) (hn : x ≠ "__name__" := by decide) (hdb : (x == ("__debug__" : Str)) = false := by decide)
    (he : starEach (e :: es) X.env = (false, eval e X.env) :: starEach es X.env := by rfl) (hpl : (backTo pos (starEach es X.env)).any (·.1) = false := by rfl) : DE G X (.Call (.Name x p) (e :: es) [] pos) (xCall g h) := DE.callB hc hg hm hv ha hn hdb he hpl
theorem e_ct {T : String} {g : List D → Option D} (hc : VCall G X (.type T) g) (hm : X.mg x = none) (hv : bootBuiltins x = some (.type T)) (ha : DA G X (e :: es) h) (hg : Gl X x := by rfl) (hn : x ≠ "__name__" := by decide) (hdb : (x == ("__debug__" : Str)) = false := by decide)
    (he : starEach (e :: es) X.env = (false, eval e X.env) :: starEach es X.env := by rfl) (hpl : (backTo pos (starEach es X.env)).any (·.1) = false := by rfl) : DE G X (.Call (.Name x p) (e :: es) [] pos) (xCall g h) := DE.callTy hc hg hm hv ha hn hdb he hpl
theorem n_cb {id : String} {g : List D → Option D} (hc : VCallN G X (.builtin id) g) (hm : X.mg x = none) (hv : bootBuiltins x = some (.builtin id)) (ha : DA G X (e :: es) h) (hg : Gl X x := by rfl) (hn : x ≠ "__name__" := by decide) (hdb : (x == ("__debug__" : Str)) = false := by decide)
    (he : starEach (e :: es) X.env = (false, eval e X.env) :: starEach es X.env := by rfl) (hpl : (backTo pos (starEach es X.env)).any (·.1) = false := by rfl) : DN G X (.Call (.Name x p) (e :: es) [] pos) (xCallN g h) := DN.callB hc hg hm hv ha hn hdb he hpl
theorem n_ct {T : String} {g : List D → Option D} (hc : VCallN G X (.type T) g) (hm : X.mg x = none) (hv : bootBuiltins x = some (.type T)) (ha : DA G X (e :: es) h) (hg : Gl X x := by rfl) (hn : x ≠ "__name__" := by decide) (hdb : (x == ("__debug__" : Str)) = false := by decide)
    (he : starEach (e :: es) X.env = (false, eval e X.env) :: starEach es X.env := by rfl) (hpl : (backTo pos (starEach es X.env)).any (·.1) = false := by rfl) : DN G X (.Call (.Name x p) (e :: es) [] pos) (xCallN g h) := DN.callTy hc hg hm hv ha hn hdb he hpl
variable {kk : Nat} {ps : List Str} {nw : Bool} {m : FD}
theorem e_cV (C : CallOk X.prog X.w X.K X.mg X.base G kk x ps false m) (hr : Room kk X.A) (ha : DA G X (e :: es) h) (hg : Gl X x := by rfl) (hd : (x == ("__debug__" : Str)) = false := by decide)
    (he : starEach (e :: es) X.env = (false, eval e X.env) :: starEach es X.env := by rfl) (hpl : (backTo pos (starEach es X.env)).any (·.1) = false := by rfl) : DE G X (.Call (.Name x p) (e :: es) [] pos) (xCallV m h) := by
  obtain ⟨f, fd, h1, h2, h3, h4⟩ := C.ex
  exact DE.callV h1 hr hg h2 h3 h4 ha hd he hpl
theorem n_cV (C : CallOk X.prog X.w X.K X.mg X.base G kk x ps true m) (hr : Room kk X.A) (ha : DA G X (e :: es) h) (hg : Gl X x := by rfl) (hd : (x == ("__debug__" : Str)) = false := by decide)
    (he : starEach (e :: es) X.env = (false, eval e X.env) :: starEach es X.env := by rfl) (hpl : (backTo pos (starEach es X.env)).any (·.1) = false := by rfl) : DN G X (.Call (.Name x p) (e :: es) [] pos) (xCallVN m h) := by
  obtain ⟨f, fd, h1, h2, h3, h4⟩ := C.ex
  exact DN.callV h1 hr hg h2 h3 h4 ha hd he hpl
theorem e_cR (C : CallOk X.prog X.w X.K X.mg X.base G kk x ps false m) (hr : Room kk X.A) (ha : DA G X (e :: es) h) (hg : Gl X x := by rfl) (hd : (x == ("__debug__" : Str)) = false := by decide)
    (he : starEach (e :: es) X.env = (false, eval e X.env) :: starEach es X.env := by rfl) (hpl : (backTo pos (starEach es X.env)).any (·.1) = false := by rfl) : DE G X (.Call (.Name x p) (e :: es) [] pos) (xCallR m h) := by
  obtain ⟨f, fd, h1, h2, h3, h4⟩ := C.ex
  exact DE.callR h1 hr hg h2 h3 h4 ha hd he hpl
theorem e_cB (C : CallOk X.prog X.w X.K X.mg X.base G kk x ps false m) (hr : Room kk X.A) (ha : DA G X (e :: es) h) (hg : Gl X x := by rfl) (hd : (x == ("__debug__" : Str)) = false := by decide)
    (he : starEach (e :: es) X.env = (false, eval e X.env) :: starEach es X.env := by rfl) (hpl : (backTo pos (starEach es X.env)).any (·.1) = false := by rfl) : DE G X (.Call (.Name x p) (e :: es) [] pos) (xCallB m h) := by
  obtain ⟨f, fd, h1, h2, h3, h4⟩ := C.ex
  exact DE.callB1 h1 hr hg h2 h3 h4 ha hd he hpl
theorem n_cB (C : CallOk X.prog X.w X.K X.mg X.base G kk x ps true m) (hr : Room kk X.A) (ha : DA G X (e :: es) h) (hg : Gl X x := by rfl) (hd : (x == ("__debug__" : Str)) = false := by decide)
    (he : starEach (e :: es) X.env = (false, eval e X.env) :: starEach es X.env := by rfl) (hpl : (backTo pos (starEach es X.env)).any (·.1) = false := by rfl) : DN G X (.Call (.Name x p) (e :: es) [] pos) (xCallBN m h) := by
  obtain ⟨f, fd, h1, h2, h3, h4⟩ := C.ex
  exact DN.callB1 h1 hr hg h2 h3 h4 ha hd he hpl
theorem r_one (M : NoG X.mg) (h : DE G X a f) (hg : Gl X "range" := by rfl) (na : starEach [a] X.env = (false, eval a X.env) :: starEach [] X.env := by rfl) : DRg G X (.Call (.Name "range" p) [a] [] pos) (xRg1 f) := DRg.one hg M.range h na
theorem r_two (M : NoG X.mg) (h : DE G X a f) (h2 : DE G X b f2) (hg : Gl X "range" := by rfl) (na : starEach [a, b] X.env = (false, eval a X.env) :: starEach [b] X.env := by rfl)
    (nb : starEach [b] X.env = (false, eval b X.env) :: starEach [] X.env := by rfl) (hp : (backTo pos (starEach [b] X.env)).any (·.1) = false := by rfl) : DRg G X (.Call (.Name "range" p) [a, b] [] pos) (xRg2 f f2) := DRg.two hg M.range h h2 na nb hp
variable {fr : Ev → Option ((Int × Int) × Ev)}
theorem n_listRg (M : NoG X.mg) (h : DRg G X e fr) (hc : X.calm = true := by rfl) (hg : Gl X "list" := by rfl) (na : starEach [e] X.env = (false, eval e X.env) :: starEach [] X.env := by rfl) : DN G X (.Call (.Name "list" p) [e] [] pos) (xLstRg fr) := DN.listRg hc hg M.list h na
theorem e_tupRg (M : NoG X.mg) (h : DRg G X e fr) (hc : X.calm = true := by rfl) (hg : Gl X "tuple" := by rfl) (na : starEach [e] X.env = (false, eval e X.env) :: starEach [] X.env := by rfl) : DE G X (.Call (.Name "tuple" p) [e] [] pos) (xTupRg fr) := DE.tupRg hc hg M.tuple h na
theorem e_isi {T : String} {y : Str} {p2 : Pos} (M : NoG X.mg) (hm2 : X.mg y = none) (hv2 : bootBuiltins y = some (.type T)) (h : DE G X e f) (hK : G.K = X.K := by rfl) (hg : Gl X "isinstance" := by rfl) (hg2 : Gl X y := by rfl) (hn2 : y ≠ "__name__" := by decide) (hdb2 : (y == ("__debug__" : Str)) = false := by decide)
    (he : starEach [e, .Name y p2] X.env = (false, eval e X.env) :: starEach [.Name y p2] X.env := by rfl) (he2 : starEach [.Name y p2] X.env = (false, eval (.Name y p2) X.env) :: starEach [] X.env := by rfl) (hpl : (backTo pos (starEach [.Name y p2] X.env)).any (·.1) = false := by rfl) :
    DE G X (.Call (.Name "isinstance" p) [e, .Name y p2] [] pos) (xIsi T f) := DE.isi hK hg M.isinstance PyProof.Rows.boot_isinstance (by decide) (by decide) hg2 hm2 hv2 hn2 hdb2 h he he2 hpl
/-! methods -/
variable {T id : String} {name : Str} {apos cpos : Pos}
theorem e_met {g : D → List D → Option D} (pa : PlainAttrs T) (slot : PySem.Slot T name id) (hty : typeOf (.builtin id) = pure (.type "method_descriptor")) (hm : VMetF G X T id g) (ha : DE G X a f) (hb : DA G X (e :: es) h)
    (hbase : attributeBase a name X.env (eval a X.env) = eval a X.env := by rfl)
    (hfew : ((backTo cpos (starEach (e :: es) X.env)).all (fun x => !x.1) && (backToKw cpos (keywordEach [] X.env)).all (fun x => x.1.isSome)
      && decide ((e :: es).length + ([] : List Keyword).length + (if ([] : List Keyword).isEmpty then 0 else 1) < 30)) = true := by rfl)
    (hline : (apos.endLine == cpos.line) = true := by rfl) (hs : starEach (e :: es) X.env = (false, eval e X.env) :: starEach es X.env := by rfl) (hplain : (backTo cpos (starEach es X.env)).any (·.1) = false := by rfl) :
    DE G X (.Call (.Attribute a name apos) (e :: es) [] cpos) (xMet g f h) := DE.met pa slot hty hm ha hb hbase hfew hline hs hplain
theorem e_mut {pos2 : Pos} (i : Nat) {g : D → List D → Option (D × D)} (pa : PlainAttrs T) (slot : PySem.Slot T name id) (hty : typeOf (.builtin id) = pure (.type "method_descriptor")) (hm : VMutF G X T id g) (hb : DA G X (e :: es) h)
    (hN : X.N[i]? = some x := by rfl) (hv : Vis X.env.scope x := by first | exact Or.inl rfl | exact Or.inr (Or.inl rfl) | exact Or.inr (Or.inr rfl)) (hd : (x == ("__debug__" : Str)) = false := by decide) (hcd : (x == ("__classdict__" : Str)) = false := by decide)
    (hbase : attributeBase (.Name x pos2) name X.env (eval (.Name x pos2) X.env) = eval (.Name x pos2) X.env := by rfl)
    (hfew : ((backTo cpos (starEach (e :: es) X.env)).all (fun x => !x.1) && (backToKw cpos (keywordEach [] X.env)).all (fun x => x.1.isSome)
      && decide ((e :: es).length + ([] : List Keyword).length + (if ([] : List Keyword).isEmpty then 0 else 1) < 30)) = true := by rfl)
    (hline : (apos.endLine == cpos.line) = true := by rfl) (hs : starEach (e :: es) X.env = (false, eval e X.env) :: starEach es X.env := by rfl) (hplain : (backTo cpos (starEach es X.env)).any (·.1) = false := by rfl) :
    DE G X (.Call (.Attribute (.Name x pos2) name apos) (e :: es) [] cpos) (xMut i g h) := DE.mut i pa slot hty hm hN hv hd hcd hb hbase hfew hline hs hplain
theorem e_mut0 {pos2 : Pos} (i : Nat) {g : D → List D → Option (D × D)} (pa : PlainAttrs T) (slot : PySem.Slot T name id) (hty : typeOf (.builtin id) = pure (.type "method_descriptor")) (hm : VMutF G X T id g)
    (hN : X.N[i]? = some x := by rfl) (hv : Vis X.env.scope x := by first | exact Or.inl rfl | exact Or.inr (Or.inl rfl) | exact Or.inr (Or.inr rfl)) (hd : (x == ("__debug__" : Str)) = false := by decide) (hcd : (x == ("__classdict__" : Str)) = false := by decide)
    (hbase : attributeBase (.Name x pos2) name X.env (eval (.Name x pos2) X.env) = eval (.Name x pos2) X.env := by rfl) (hline : (apos.endLine == cpos.line) = true := by rfl) :
    DE G X (.Call (.Attribute (.Name x pos2) name apos) [] [] cpos) (xMut0 i g) := DE.mut0 i pa slot hty hm hN hv hd hcd hbase hline
/-! targets, statements -/
variable {pos' : Pos}
theorem g_nm (i : Nat) (hN : X.N.Nodup) (hi : X.N[i]? = some x := by rfl) (hx : Loc X.env.scope x := by first | exact Or.inl rfl | exact Or.inr rfl) (hf : X.fn x = true ∨ X.env.scope.names.lookup x = some .local := by first | exact Or.inl rfl | exact Or.inr rfl) : DG G X [i] (.Name x pos) (gSet i) := DG.name i hN hi hx hf
theorem gs_cons {g : FG} {q : FGs} {W W1 : List Nat} (h : DG G X W1 e g) (h2 : DGs G X W es q) (hW : ∀ j ∈ W1, j ∈ W := by decide) (hs : (assignEach (e :: es) X.env).map (·.2) = assign e X.env :: (assignEach es X.env).map (·.2) := by rfl) : DGs G X W (e :: es) (gsCons g q) := DGs.cons h h2 hW hs
theorem g_tup {q : FGs} {W : List Nat} {n2 n : Nat} (h : DGs G X W es q) (hc : X.calm = true := by rfl) (hn : (assignEach es X.env).length = n := by rfl) (hst : (assignEach es X.env).findIdx? (·.1) = none := by rfl) : DG G X W (.Tuple es n2 pos) (gTupD n q) := DG.tup hc h hn hst
theorem g_lst {q : FGs} {W : List Nat} {n2 n : Nat} (h : DGs G X W es q) (hc : X.calm = true := by rfl) (hn : (assignEach es X.env).length = n := by rfl) (hst : (assignEach es X.env).findIdx? (·.1) = none := by rfl) : DG G X W (.Tuple es n2 pos) (gLstD n q) := DG.lst hc h hn hst
theorem g_sub (i : Nat) {pos2 : Pos} {ix : Expr} (h : DE G X ix f) (hN : X.N[i]? = some x := by rfl) (hv : Vis X.env.scope x := by first | exact Or.inl rfl | exact Or.inr (Or.inl rfl) | exact Or.inr (Or.inr rfl)) (hd : (x == ("__debug__" : Str)) = false := by decide) (hcd : (x == ("__classdict__" : Str)) = false := by decide)
    (ha : ∀ v, assign (.Subscript (.Name x pos2) ix pos) X.env v = (do
      let ov ← holding [v] (eval (.Name x pos2) X.env)
      let iv ← holding [v, ov] (eval ix X.env)
      standAt pos
      holding [v, ov, iv] (setItem ov iv v)
      release [v, ov, iv] []) := by exact fun _ => rfl) : DG G X [] (.Subscript (.Name x pos2) ix pos) (gSubL i f) := DG.sub i hN hv hd hcd h ha
theorem s_set (i : Nat) (h : DE G X e f) (hN : X.N.Nodup) (hi : X.N[i]? = some x := by rfl) (hx : Loc X.env.scope x := by first | exact Or.inl rfl | exact Or.inr rfl) (hs : swapsWith e (some (.Name x pos')) pos.line X.env = pure false := by rfl) (hf : X.fn x = true ∨ X.env.scope.names.lookup x = some .local := by first | exact Or.inl rfl | exact Or.inr rfl) :
    DS G X (.Assign [.Name x pos'] e pos) (sSet i f) := (h.as hN hi hx hs hf).set
theorem s_setN (i : Nat) {fn : FN} (h : DN G X e fn) (hN : X.N.Nodup) (hi : X.N[i]? = some x := by rfl) (hx : Loc X.env.scope x := by first | exact Or.inl rfl | exact Or.inr rfl) (hs : swapsWith e (some (.Name x pos')) pos.line X.env = pure false := by rfl) (hf : X.fn x = true ∨ X.env.scope.names.lookup x = some .local := by first | exact Or.inl rfl | exact Or.inr rfl) :
    DS G X (.Assign [.Name x pos'] e pos) (sSetN i fn) := (h.as hN hi hx hs hf).set
theorem s_asg {tg : Expr} {g : FG} {W : List Nat} (h : DE G X e f) (hg : DG G X W tg g) (hs : swapsWithSole [tg] e pos.line X.env = pure false := by rfl) (hw : swappedStores [tg] e X.env = pure none := by rfl) (h1 : (assignEach [tg] X.env).map (·.2) = [assign tg X.env] := by rfl) :
    DS G X (.Assign [tg] e pos) (sAsg f g) := DS.asg h hg hs hw h1
theorem s_expr (h : DE G X e f) (hs : swapsWith e none pos.line X.env = pure false := by rfl) : DS G X (.Expr e pos) (sDrop f) := DS.expr h hs
theorem s_aug (i : Nat) {op : Operator} {g : D → D → Option D} (hv : VOp G X (inplaceOp op) g) (h : DE G X e f) (hN : X.N.Nodup) (hi : X.N[i]? = some x := by rfl) (hx : Loc X.env.scope x := by first | exact Or.inl rfl | exact Or.inr rfl) (hf : X.fn x = true ∨ X.env.scope.names.lookup x = some .local := by first | exact Or.inl rfl | exact Or.inr rfl) :
    DS G X (.AugAssign (.Name x pos') op e pos) (sAug i g f) := DS.aug hv hN hi hx h hf
theorem s_augL (i : Nat) {pos2 tpos : Pos} {ix : Expr} {op : Operator} {g : D → D → Option D} (hv : VOp G X (inplaceOp op) g) (h : DE G X ix f) (h2 : DE G X e f2) (hN : X.N[i]? = some x := by rfl) (hvi : Vis X.env.scope x := by first | exact Or.inl rfl | exact Or.inr (Or.inl rfl) | exact Or.inr (Or.inr rfl)) (hd : (x == ("__debug__" : Str)) = false := by decide) (hcd : (x == ("__classdict__" : Str)) = false := by decide)
    (ha : ∀ ov iv new, augStore ix ov iv new = (do holding [new, ov, iv] (setItem ov iv new); release [new, ov, iv] []; pure .next) := by exact fun _ _ _ => rfl) : DS G X (.AugAssign (.Subscript (.Name x pos2) ix tpos) op e pos) (sAugL i f g f2) := DS.augL i hv hN hvi hd hcd h h2 ha
theorem s_par {i j : Nat} {y : Str} {px py pt : Pos} {kt k2 pt2} (ha : DA G X [a, b] h) (hN : X.N.Nodup) (hi : X.N[i]? = some x := by rfl) (hj : X.N[j]? = some y := by rfl) (hij : i ≠ j := by decide)
    (hx : X.env.scope.names.lookup x = some .local := by rfl) (hy : X.env.scope.names.lookup y = some .local := by rfl) (hc : X.calm = true := by rfl)
    (hw : swappedStores [.Tuple [.Name x px, .Name y py] kt pt] (.Tuple [a, b] k2 pt2) X.env = pure (some [x, y]) := by rfl)
    (hs : swapsWithSole [.Tuple [.Name x px, .Name y py] kt pt] (.Tuple [a, b] k2 pt2) pos.line X.env = pure false := by rfl) :
    DS G X (.Assign [.Tuple [.Name x px, .Name y py] kt pt] (.Tuple [a, b] k2 pt2) pos) (sPar i j h) := DS.par hc hN hi hj hij hx hy ha hw hs
theorem s_for {tg iter : Expr} {body : List Stmt} {fi : FI} {g : FG} {s : FS} {W : List Nat} (tmp : List Nat) (hi : DI G X tg iter fi) (hg : DG G X W tg g) (hb : DSs G X body s) (hp : PassesOwn (model X.prog X.w) X.A X.env X.xe := by exact PassesOwn.never) (hc : X.calm = true := by rfl)
    (hs : ∀ x, foldedSetIterable iter X.env x = pure x := by exact fun _ => rfl) : DS G X (.For tg iter body [] pos) (sFor tmp fi g s) := DS.for tmp hp hc hi hg hb hs
theorem s_while {body : List Stmt} {s1 : FS} (tmp : List Nat) (n : Nat) (hc : DT G X c k) (hb : DSs G X body s1) (hp : PassesOwn (model X.prog X.w) X.A X.env X.xe := by exact PassesOwn.never) : DS G X (.While c body [] pos) (sWhile tmp k s1 n) := DS.while tmp n hp hc hb
theorem i_val {tg l : Expr} (h : DE G X l f) (hK : G.K = X.K := by rfl) : DI G X tg l (iVal f) := DI.val h hK
theorem i_r1 {tg : Expr} (M : NoG X.mg) (h : DE G X a f) (hg : Gl X "range" := by rfl) (hs : starEach [a] X.env = [(false, eval a X.env)] := by rfl) : DI G X tg (.Call (.Name "range" p) [a] [] pos) (iRg1 f) := DI.range1 hg M.range h hs hs
theorem i_r2 {tg : Expr} (M : NoG X.mg) (h : DE G X a f) (h2 : DE G X b f2) (hg : Gl X "range" := by rfl) (hs : starEach [a, b] X.env = [(false, eval a X.env), (false, eval b X.env)] := by rfl) (hs2 : starEach [b] X.env = [(false, eval b X.env)] := by rfl) :
    DI G X tg (.Call (.Name "range" p) [a, b] [] pos) (iRg2 f f2) := DI.range2 hg M.range h h2 hs hs2 (by rw [hs, hs2]) (by rw [hs2]; rfl)
theorem n_lc {elt tg iter : Expr} {ifs : List Expr} {scope : Scope} (own : List (Str × Nat)) {fi : FI} {g : FG} {W : List Nat} (hN : X.N.Nodup) (hi : DI G X tg iter fi)
    (hg : ∀ (s : Shared) (H : Hp) (C : Addr) (cl : List (Str × Addr)) (fp : List Addr), DG G (X.blk s H scope (compEnvC scope cl C X.env) fp) W tg g)
    (ht : ∀ (s : Shared) (H : Hp) (C : Addr) (cl : List (Str × Addr)) (fp : List Addr), DTs G (X.blk s H scope (compEnvC scope cl C X.env) fp) ifs k)
    (he : ∀ (s : Shared) (H : Hp) (C : Addr) (cl : List (Str × Addr)) (fp : List Addr), DE G (X.blk s H scope (compEnvC scope cl C X.env) fp) elt f)
    (hc : X.calm = true := by rfl) (ok : blkC X.N X.env.scope scope own = true := by rfl) (hW : ∀ j ∈ W, j ∈ own.map (·.2) := by decide) (hs : ∀ x, foldedSetIterable iter X.env x = pure x := by exact fun _ => rfl) :
    DN G X (.ListComp elt [⟨tg, iter, ifs, 0⟩] scope pos) (xLc fi (own.map (·.2)) g k f) := DN.lc hc hN hi (blkOk_by ok) hg ht he hW hs
theorem s_setLcN (i : Nat) {y : Str} {py spos : Pos} {elt tg iter : Expr} {ifs : List Expr} {scope : Scope} (own : List (Str × Nat)) {fi : FI} {g : FG} {W : List Nat} (hN : X.N.Nodup) (hi : DI G X tg iter fi)
    (hg : ∀ (s : Shared) (H : Hp) (C : Addr) (cl : List (Str × Addr)) (fp : List Addr), DG G (X.blk s H scope (compEnvC scope cl C X.env) fp) W tg g)
    (ht : ∀ (s : Shared) (H : Hp) (C : Addr) (cl : List (Str × Addr)) (fp : List Addr), DTs G (X.blk s H scope (compEnvC scope cl C X.env) fp) ifs k)
    (he : ∀ (s : Shared) (H : Hp) (C : Addr) (cl : List (Str × Addr)) (fp : List Addr), DE G (X.blk s H scope (compEnvC scope cl C X.env) fp) elt f)
    (hy : X.N[i]? = some y := by rfl) (hyl : X.env.scope.names.lookup y = some .local := by rfl)
    (hsw : swapsWith (.ListComp elt [⟨tg, iter, ifs, 0⟩] scope pos) (some (.Name y py)) spos.line X.env = pure true := by rfl)
    (hc : X.calm = true := by rfl) (ok : blkC X.N X.env.scope scope own = true := by rfl) (hW : ∀ j ∈ W, j ∈ own.map (·.2) := by decide) (hs : ∀ x, foldedSetIterable iter X.env x = pure x := by exact fun _ => rfl) :
    DS G X (.Assign [.Name y py] (.ListComp elt [⟨tg, iter, ifs, 0⟩] scope pos) spos) (sSetN i (xLc fi (own.map (·.2)) g k f)) := (DAsN.lc hc hN hy hyl hsw hi (blkOk_by ok) hg ht he hW hs).set
theorem s_setLc (i : Nat) {y : Str} {py spos : Pos} {elt tg iter : Expr} {ifs : List Expr} {scope : Scope} (own : List (Str × Nat)) {fi : FI} {g : FG} {W : List Nat} (hN : X.N.Nodup) (hi : DI G X tg iter fi)
    (hg : ∀ (s : Shared) (H : Hp) (C : Addr) (cl : List (Str × Addr)) (fp : List Addr), DG G (X.blk s H scope (compEnvC scope cl C X.env) fp) W tg g)
    (ht : ∀ (s : Shared) (H : Hp) (C : Addr) (cl : List (Str × Addr)) (fp : List Addr), DTs G (X.blk s H scope (compEnvC scope cl C X.env) fp) ifs k)
    (he : ∀ (s : Shared) (H : Hp) (C : Addr) (cl : List (Str × Addr)) (fp : List Addr), DE G (X.blk s H scope (compEnvC scope cl C X.env) fp) elt f)
    (hy : X.N[i]? = some y := by rfl) (hyl : X.env.scope.names.lookup y = some .local := by rfl)
    (hsw : swapsWith (.ListComp elt [⟨tg, iter, ifs, 0⟩] scope pos) (some (.Name y py)) spos.line X.env = pure true := by rfl)
    (hc : X.calm = true := by rfl) (ok : blkC X.N X.env.scope scope own = true := by rfl) (hW : ∀ j ∈ W, j ∈ own.map (·.2) := by decide) (hs : ∀ x, foldedSetIterable iter X.env x = pure x := by exact fun _ => rfl) :
    DS G X (.Assign [.Name y py] (.ListComp elt [⟨tg, iter, ifs, 0⟩] scope pos) spos) (sSet i (xNew (xLc fi (own.map (·.2)) g k f))) := (DAsN.lc hc hN hy hyl hsw hi (blkOk_by ok) hg ht he hW hs).as.set
end
/-! ### + and in, whatever they are asked of -/
section
variable {G : Gx} {X : Cx}
noncomputable def dPlus : D → D → Option D := orF dAdd (orF dCat dCatT)
theorem v_plus : VOp G X (binaryOp .Add) dPlus := v_add.or (v_cat.op.or v_catT)
def dInA : D → D → Option D := orF dIn dInT
def dNotInA : D → D → Option D := orF dNotIn dNotInT
theorem v_in (hu : X.A.units + 65 < cLine) : VOp G X (compareOp .In) dInA := (v_inL hu).or (v_inT hu)
theorem v_notIn (hu : X.A.units + 65 < cLine) : VOp G X (compareOp .NotIn) dNotInA := (v_notInL hu).or (v_notInT hu)
def dIs : D → D → Option D := orF dIsN dIsB
def dIsNot : D → D → Option D := orF dNotN dNotB
theorem v_is : VOp G X (compareOp .Is) dIs := v_isN.or v_isB
theorem v_isNot : VOp G X (compareOp .IsNot) dIsNot := v_notN.or v_notB
end
end DL

set_option maxRecDepth 100000
namespace DL
open PySem PySem.Spec PyProof.Rows L2

/-! ### len(set(xs)) of ints -/
/-- the ints without those that came before -/
def dedI (ns : List Int) : List Int := PyProof.Rows.firstMet (fun i => ns.getD i 0) ns.length
def tLenSetG (K : PySem.W.Frag) (ta : TE) : TE := fun σ H Q => ta σ H fun x H1 => ∃ (l : Addr) (ns : List Int), x = V.ref l ∧ SqL K H1 l (ns.map V.int) ∧ ns.length < 4000 ∧ Q (.int (dedI ns).length) H1
section
variable {G : Gx} {X : Cx} {a : Expr} {p p2 q pos : Pos} {f : FE}
theorem pe_lenSetG {ta : TE} (hc : X.calm = true) (hg : Gl X "len") (hm : X.mg "len" = none) (hg2 : Gl X "set") (hm2 : X.mg "set" = none) (ha : PE X a ta)
    (na : starEach [a] X.env = (false, eval a X.env) :: starEach [] X.env) : PE X (.Call (.Name "len" p) [.Call (.Name "set" p2) [a] [] q] [] pos) (tLenSetG X.K ta) := by
  refine ⟨fun pins s σ H Q I h => ?_⟩
  refine Call_ (ld_blt I hg hm PySem.boot_len ?_)
  refine PyProof.Rows.callWith_builtin1 (PyProof.Rows.args_cons ?_ rfl) rfl rfl
  refine Call_ (ld_blt I hg2 hm2 PyProof.Rows.boot_set ?_)
  refine PyProof.Rows.callWith_type1 (PyProof.Rows.args_cons (thn (ha.run pins s σ H _ I h) fun v s1 ⟨x, H1, I1, r1, q1⟩ => PyProof.Rows.args_nil ?_) na) na rfl
  obtain ⟨l, ns, rfl, hq, h1, q1⟩ := q1
  cases r1
  obtain ⟨its, r, pl, hz⟩ := I1.list hq
  have hl : its.toArray.size = ns.length := by rw [List.size_toArray, ← r.length, List.length_map]
  refine call_set_list (I1.ok.hd hc) pl.isList (ns := ns) (by simpa using r.ints) (by unfold scanBound; omega) fun h' tk hS hk => ?_
  rw [hl] at hS
  refine PyProof.Rows.args_nil ?_
  obtain ⟨o, es, ep, t, ho, hex, hd, _, _, _, hf, hn⟩ := hS
  have hn2 : es.size = (dedI ns).length := hn
  have hn3 : (dedI ns).length ≤ ns.length := PyProof.Rows.firstMet_length_le _ _
  have I2 : Inv X pins σ H1 { s1 with heap := h', toks := tk } := I1.kept fun b o e => hk b o (Heap.lt_size e) e
  refine call_len_set ho hex hd hf (by omega) ⟨.int (dedI ns).length, H1, I2.tok _, ⟨_, by rw [hn2]⟩, q1⟩
noncomputable def xLenSetI (f : FE) : FE := fun ρ => (f ρ).bind fun z => (z.1.rd z.2).bind fun d => match d with
  | .lst xs => (intsOf xs).bind fun ns => if Grd (ns.length < 4000) then some (.val (.int (dedI ns).length), z.2) else none
  | _ => none
theorem e_lenSetI (M : NoG X.mg) (ha : DE G X a f) (hc : X.calm = true := by rfl) (hg : Gl X "len" := by rfl) (hg2 : Gl X "set" := by rfl)
    (na : starEach [a] X.env = (false, eval a X.env) :: starEach [] X.env := by rfl) : DE G X (.Call (.Name "len" p) [.Call (.Name "set" p2) [a] [] q] [] pos) (xLenSetI f) := by
  obtain ⟨t, pt, qt⟩ := ha.ex
  refine ⟨_, pe_lenSetG hc hg M.len hg2 M.set pt na, fun N σ H ρ r ρ' Q I e kk => ?_⟩
  obtain ⟨z, e1, e⟩ := Option.bind_eq_some_iff.mp e
  obtain ⟨d, e2, e⟩ := Option.bind_eq_some_iff.mp e
  split at e
  · rename_i xs
    obtain ⟨ns, e3, e⟩ := Option.bind_eq_some_iff.mp e
    split at e
    · rename_i hz
      cases e
      refine qt N σ H ρ z.1 z.2 _ I e1 fun v H1 g1 r1 => ?_
      obtain ⟨b, rfl, hb⟩ := (r1.repT g1.env e2).ints e3
      exact ⟨b, ns, rfl, .of hb, hz, kk _ H1 g1 (.int _)⟩
    · cases e
  · cases e
end

/-! ### comprehensions of two clauses -/
/-- an iterator over values: it goes on as long as what stood stands -/
def ItV (G : Gx) (N : Addr → Prop) (σ0 : L2.St) (ρ0 : Ev) (H0 : Hp) (J : It) (its : List D) : Prop :=
  ∀ (M' : Addr → Prop) (H : Hp) (i : Nat), (∀ a, M' a → MM N σ0 ρ0 a ∨ H0 a = none) → (∀ a o, H0 a = some o → ¬ MM N σ0 ρ0 a → H a = some o) →
    (its.length ≤ i → J.stop i H) ∧ ∀ d, its[i]? = some d → J.go i H ∧ ∀ x H', J.yld i H x H' → Same H H' ∧ Rep G M' H' x d
abbrev FV := Ev → Option (List D × Ev)
structure DIV (G : Gx) (X : Cx) (tg e : Expr) (f : FV) : Prop where
  ex : ∃ wi, PI X tg e wi ∧ ∀ N σ H ρ z ρ' R, EnvOk G N H σ ρ → f ρ = some (z, ρ') → (∀ J H', GoE G N σ ρ H ρ' H' → ItV G N σ ρ' H' J z → R J H') → wi σ H R
section
variable {G : Gx} {X : Cx} {tg l a b : Expr} {f f2 : FE} {p pos : Pos}
def vVal (f : FE) : FV := fun ρ => (f ρ).bind fun z => match z.1 with
  | .val (.lst xs) => some (xs, z.2)
  | .val (.tup xs) => some (xs, z.2)
  | _ => none
theorem v_val (h : DE G X l f) : DIV G X tg l (vVal f) := by
  obtain ⟨t, p, q⟩ := h.ex
  refine ⟨_, pi_seq p, fun N σ H ρ z ρ' R I e w => ?_⟩
  obtain ⟨⟨r, ρ1⟩, e1, e⟩ := Option.bind_eq_some_iff.mp e
  refine q N σ H ρ r ρ1 _ I e1 fun v H1 g rr => ?_
  cases r with
  | own i => cases e
  | val d =>
    have rr : Rep G (MM N σ ρ1) H1 v d := rr
    cases d with
    | lst ds =>
      cases e
      cases rr with
      | lst h1 h2 h3 =>
        rename_i xs
        refine ⟨_, rfl, .inl ⟨_, .of h2, w _ H1 g fun M' H' i hM hH => ?_⟩⟩
        have h4 := hH _ _ h2 h1
        have h5 := h3.mono hM hH
        refine ⟨fun hi => ⟨_, .of h4, by rw [h5.length]; exact hi⟩, fun d hd => ?_⟩
        obtain ⟨x, hx, rx⟩ := h5.get hd
        refine ⟨⟨_, x, .of h4, hx⟩, fun y H2 ⟨e, q⟩ => ?_⟩
        subst e
        have := q _ (.of h4)
        rw [hx] at this
        cases this
        exact ⟨.refl _, rx⟩
    | tup ds =>
      cases e
      cases rr with
      | tup h1 h2 h0 h3 =>
        refine ⟨_, rfl, .inr ⟨_, .inl (.inr ⟨_, h2⟩), w _ H1 g fun M' H' i hM hH => ?_⟩⟩
        have h4 := hH _ _ h2 h1
        have h5 := h3.mono hM hH
        refine ⟨fun hi => ⟨_, .inl (.inr ⟨_, h4⟩), by rw [h5.length]; exact hi⟩, fun d hd => ?_⟩
        obtain ⟨x, hx, rx⟩ := h5.get hd
        refine ⟨⟨_, x, .inl (.inr ⟨_, h4⟩), hx⟩, fun y H2 ⟨e, q⟩ => ?_⟩
        subst e
        have := q _ (.inl (.inr ⟨_, h4⟩))
        rw [hx] at this
        cases this
        exact ⟨.refl _, rx⟩
    | _ => cases e
theorem itr_v {N : Addr → Prop} {σ0 : L2.St} {ρ0 : Ev} {H0 : Hp} (lo : Int) (n : Nat) : ItV G N σ0 ρ0 H0 (Itr lo n) (rgD lo n) := by
  intro M' H i hM hH
  refine ⟨fun hi => by unfold rgD at hi; rw [List.length_map, List.length_range] at hi; exact hi, fun d hd => ?_⟩
  unfold rgD at hd
  rw [List.getElem?_map] at hd
  cases hq : (List.range n)[i]? with
  | none => rw [hq] at hd; cases hd
  | some k =>
    rw [hq] at hd
    cases hd
    obtain ⟨hi, e⟩ := List.getElem?_eq_some_iff.mp hq
    rw [List.length_range] at hi
    rw [List.getElem_range] at e
    subst e
    refine ⟨hi, fun x H' ⟨e1, e2⟩ => ?_⟩
    subst e1
    subst e2
    exact ⟨.refl _, .int _⟩
noncomputable def vRg1 (f : FE) : FV := fun ρ => (f ρ).bind fun z => (z.1.rd z.2).bind fun d => match d with
  | .int j => if Grd (-(2 ^ 62) ≤ j ∧ j < 2 ^ 62) then some (rgD 0 j.toNat, z.2) else none
  | _ => none
noncomputable def vRg2 (f f2 : FE) : FV := fun ρ => (f ρ).bind fun z => (f2 z.2).bind fun y => (z.1.rd y.2).bind fun d => (y.1.rd y.2).bind fun d2 => match d, d2 with
  | .int i, .int j => if Grd (-(2 ^ 62) ≤ i ∧ i < 2 ^ 62 ∧ -(2 ^ 62) ≤ j ∧ j < 2 ^ 62) then some (rgD i (j - i).toNat, y.2) else none
  | _, _ => none
theorem v_r1 (M : NoG X.mg) (h : DE G X a f) (hg : Gl X "range" := by rfl) (hs : starEach [a] X.env = [(false, eval a X.env)] := by rfl) : DIV G X tg (.Call (.Name "range" p) [a] [] pos) (vRg1 f) := by
  obtain ⟨t, pt, q⟩ := h.ex
  refine ⟨_, pi_range1 hg M.range (pa_cons pt pa_nil hs) hs, fun N σ H ρ z ρ' R I e w => ?_⟩
  obtain ⟨⟨r, ρ1⟩, e1, e⟩ := Option.bind_eq_some_iff.mp e
  obtain ⟨d, e2, e⟩ := Option.bind_eq_some_iff.mp e
  split at e
  · split at e
    · rename_i hb
      cases e
      refine q N σ H ρ r ρ1 _ I e1 fun v H1 g rr => ?_
      exact ⟨_, by rw [(rr.repT g.env e2).int], hb.1, hb.2, w _ H1 g (itr_v 0 _)⟩
    · cases e
  · cases e
theorem v_r2 (M : NoG X.mg) (h : DE G X a f) (h2 : DE G X b f2) (hg : Gl X "range" := by rfl) (hs : starEach [a, b] X.env = [(false, eval a X.env), (false, eval b X.env)] := by rfl) (hs2 : starEach [b] X.env = [(false, eval b X.env)] := by rfl) :
    DIV G X tg (.Call (.Name "range" p) [a, b] [] pos) (vRg2 f f2) := by
  obtain ⟨t, pt, q⟩ := h.ex
  obtain ⟨t2, pt2, q2⟩ := h2.ex
  refine ⟨_, pi_range2 hg M.range (pa_cons pt (pa_cons pt2 pa_nil hs2) (by rw [hs, hs2])) hs hs2, fun N σ H ρ z ρ' R I e w => ?_⟩
  obtain ⟨z1, e1, e⟩ := Option.bind_eq_some_iff.mp e
  obtain ⟨z2, e2, e⟩ := Option.bind_eq_some_iff.mp e
  obtain ⟨d1, e3, e⟩ := Option.bind_eq_some_iff.mp e
  obtain ⟨d2, e4, e⟩ := Option.bind_eq_some_iff.mp e
  split at e
  · split at e
    · rename_i hb
      cases e
      refine two_run q q2 I e1 e2 e3 e4 fun x y H2 g rx ry => ?_
      exact ⟨_, _, by rw [rx.int, ry.int], hb, w _ H2 g (itr_v _ _)⟩
    · cases e
  · cases e
/-- like Go, but that pd may have changed -/
structure GoD (G : Gx) (N : Addr → Prop) (pd : Addr) (σ : L2.St) (ρ : Ev) (H : Hp) (σ' : L2.St) (ρ' : Ev) (H' : Hp) : Prop where
  env : EnvOk G N H' σ' ρ'
  fr : ∀ a o, H a = some o → ¬ OwnS σ ρ a → a ≠ pd → H' a = some o
  dom : ∀ a, H a ≠ none → H' a ≠ none
  own : ∀ a, OwnS σ' ρ' a → OwnS σ ρ a ∨ H a = none
  pin : ∀ (i : Nat) (d : D), ρ[i]? = some (Slot.ow true d) → (∃ d', ρ'[i]? = some (Slot.ow true d')) ∧ σ'[i]? = σ[i]?
variable {N : Addr → Prop} {pd : Addr} {σ σ1 σ2 : L2.St} {ρ ρ1 ρ2 : Ev} {H H1 H2 : Hp}
theorem Go.toD (g : Go G N σ ρ H σ1 ρ1 H1) (pd : Addr) : GoD G N pd σ ρ H σ1 ρ1 H1 := ⟨g.env, fun a o e n _ => g.fr a o e n, g.dom, g.own, g.pin⟩
theorem GoD.trans (g : GoD G N pd σ ρ H σ1 ρ1 H1) (k : GoD G N pd σ1 ρ1 H1 σ2 ρ2 H2) : GoD G N pd σ ρ H σ2 ρ2 H2 := by
  have hn : ∀ a, H1 a = none → H a = none := fun a h => back_none g.dom h
  refine ⟨k.env, fun a o e n z0 => k.fr a o (g.fr a o e n z0) (fun z => ?_) z0, fun a h => k.dom a (g.dom a h), fun a h => ?_, fun i d h => ?_⟩
  · rcases g.own a z with z | z
    · exact n z
    · rw [e] at z; cases z
  · rcases k.own a h with z | z
    · exact g.own a z
    · exact .inr (hn a z)
  · obtain ⟨⟨d1, h1⟩, e1⟩ := g.pin i d h
    obtain ⟨h2, e2⟩ := k.pin i d1 h1
    exact ⟨h2, e2.trans e1⟩
theorem GoD.updF {o : HO} (g : GoD G N pd σ ρ H σ1 ρ1 H1) (hp : N pd) : GoD G N pd σ ρ H σ1 ρ1 (upd H1 pd o) := by
  refine ⟨g.env.updF hp, fun a u e n z => ?_, fun a h => ?_, g.own, g.pin⟩
  · rw [upd_ne z]
    exact g.fr a u e n z
  · by_cases hc : a = pd
    · rw [hc, upd_same]; exact (fun z => nomatch z)
    · rw [upd_ne hc]; exact g.dom a h
theorem Go.transD (g : Go G N σ ρ H σ1 ρ1 H1) (k : GoD G N pd σ1 ρ1 H1 σ2 ρ2 H2) (h0 : H pd = none) : Go G N σ ρ H σ2 ρ2 H2 := by
  have t := (g.toD pd).trans k
  exact ⟨t.env, fun a o e n => t.fr a o e n (ne_of_none e h0), t.dom, t.own, t.pin⟩
theorem GoD.mms (g : GoD G N pd σ ρ H σ1 ρ1 H1) (hp : N pd) : (∀ a, MM N σ1 ρ1 a → MM N σ ρ a ∨ H a = none) ∧ ∀ a o, H a = some o → ¬ MM N σ ρ a → H1 a = some o := by
  refine ⟨fun a h => ?_, fun a o e n => g.fr a o e (fun z => n (.inr z)) fun z => n (by rw [z]; exact .inl hp)⟩
  rcases h with h | h
  · exact .inl (.inl h)
  · rcases g.own a h with z | z
    · exact .inl (.inr z)
    · exact .inr z
/-- the inner loop -/
theorem lc_in {t1 : TG} {tt1 : TT} {te : TE} {vs1 W1 : List Nat} {g1 : FG} {k1 : FT} {f : FE}
    (q1 : ∀ N σ H ρ v d ρ' Q, EnvOk G N H σ ρ → Rep G (MM N σ ρ) H v d → g1 d ρ = some ρ' → (∀ σ' H', Go G N σ ρ H σ' ρ' H' → Outside W1 σ ρ σ' ρ' → Q σ' H') → t1 v σ H Q)
    (q2 : ∀ N σ H ρ b ρ' Q, EnvOk G N H σ ρ → k1 ρ = some (b, ρ') → (∀ H', GoE G N σ ρ H ρ' H' → Q b H') → tt1 σ H Q)
    (q3 : ∀ N σ H ρ r ρ' Q, EnvOk G N H σ ρ → f ρ = some (r, ρ') → (∀ v H', GoE G N σ ρ H ρ' H' → RR G N σ ρ' H' v r → Q v H') → te σ H Q)
    (hW : ∀ j ∈ W1, j ∈ vs1) {J : It} {its : List D} {acc0 : List V} {ds0 out : List D} {ρe : Ev} {Nx : Hp → Prop} (hN : N pd) (I : EnvOk G N H σ ρ) (hD : H pd = some (.lst acc0)) (r0 : RepL G (MM N σ ρ) H acc0 ds0)
    (no : noOwn ρ vs1 = true) (hit : ItV G N σ ρ H J its) (e : lcL vs1 none its g1 k1 f its (wipeE ρ vs1) ds0 = some (out, ρe))
    (fin : ∀ Hc acc, GoD G N pd σ ρ H (wipe σ vs1) ρe Hc → Outside vs1 σ ρ (wipe σ vs1) ρe → Hc pd = some (.lst acc) → RepL G (MM N (wipe σ vs1) ρe) Hc acc out → Nx Hc) :
    ∃ W : Nat → Nat → Hp → Prop, (∃ m, W 0 m H) ∧ ∀ j k Hc, W j k Hc →
      (J.stop j Hc ∧ Nx Hc) ∨ (J.go j Hc ∧ ∃ Nx1 : Hp → Prop, (∀ H', Nx1 H' → ∃ k', k' < k ∧ W (j + 1) k' H') ∧ ∀ x H', J.yld j Hc x H' → t1 x (wipe σ vs1) H' fun σ3 H5 => wipe σ3 vs1 = wipe σ vs1 ∧ tt1 σ3 H5 fun b H6 =>
        if b = true then te σ3 H6 fun y H7 => ∃ acc, H7 pd = some (.lst acc) ∧ acc.length < sizeLine ∧ Nx1 (upd H7 pd (.lst (acc ++ [y]))) else Nx1 H6) := by
  have hlen1 : ∀ j ∈ vs1, j < ρ.length := fun j hj => (noOwn_at no hj).2
  have gw := (Go.wiped (vs := vs1) I fun j hj d z => (noOwn_at no hj).1 true d z).toD pd
  have rw0 : RepL G (MM N (wipe σ vs1) (wipeE ρ vs1)) H acc0 ds0 := r0.mono (fun c z => .inl (z.elim .inl fun z => .inr (own_wipe z))) fun _ _ e _ => e
  refine ⟨fun i m Hc => ∃ ρk acc ds, GoD G N pd σ ρ H (wipe σ vs1) ρk Hc ∧ Outside vs1 σ ρ (wipe σ vs1) ρk ∧ (∀ j ∈ vs1, ρk[j]? = some .un) ∧ Hc pd = some (.lst acc) ∧ RepL G (MM N (wipe σ vs1) ρk) Hc acc ds ∧ m = its.length - i ∧ i ≤ its.length ∧
    lcL vs1 none its g1 k1 f (its.drop i) ρk ds = some (out, ρe),
    ⟨its.length, wipeE ρ vs1, acc0, ds0, gw, .wiped, fun j hj => wipeE_in hj (hlen1 j hj), hD, rw0, by simp, Nat.zero_le _, by simpa using e⟩, ?_⟩
  rintro i m Hc ⟨ρk, acc, ds, gk, ok, unk, hDc, rl, rfl, hi, e3⟩
  obtain ⟨m1, m2⟩ := gk.mms hN
  obtain ⟨h1, h2⟩ := hit (MM N (wipe σ vs1) ρk) Hc i m1 m2
  by_cases hlt : i < its.length
  · have hd : its[i]? = some its[i] := List.getElem?_eq_getElem hlt
    obtain ⟨hgo, hy⟩ := h2 _ hd
    rw [List.drop_eq_getElem_cons hlt] at e3
    unfold lcL at e3
    obtain ⟨ρ2, e4, e3⟩ := Option.bind_eq_some_iff.mp e3
    obtain ⟨⟨b, ρ3⟩, e5, e3⟩ := Option.bind_eq_some_iff.mp e3
    refine .inr ⟨hgo, fun H' => ∃ ρ' acc ds, GoD G N pd σ ρ H (wipe σ vs1) ρ' H' ∧ Outside vs1 σ ρ (wipe σ vs1) ρ' ∧ (∀ j ∈ vs1, ρ'[j]? = some .un) ∧ H' pd = some (.lst acc) ∧ RepL G (MM N (wipe σ vs1) ρ') H' acc ds ∧ lcL vs1 none its g1 k1 f (its.drop (i + 1)) ρ' ds = some (out, ρe),
      fun H' ⟨ρ', acc, ds, k1, k2, k3, k4, k5, k6⟩ => ⟨its.length - (i + 1), by omega, ρ', acc, ds, k1, k2, k3, k4, k5, rfl, hlt, k6⟩, fun x H' hx => ?_⟩
    obtain ⟨sm, rx⟩ := hy x H' hx
    have gx := Go.trans (Go.refl gk.env) (GoE.grow gk.env sm).go
    refine q1 _ (wipe σ vs1) H' ρk x _ ρ2 _ gx.env rx e4 fun σ3 H3 g2 o2 => ?_
    have o2' := o2.mono hW
    have hw3 : wipe σ3 vs1 = wipe σ vs1 := wipe_eq (o2'.slen.trans (wipe_length _ _)) fun j hj => by rw [o2'.st j hj, wipe_outS hj]
    refine ⟨hw3, q2 _ σ3 H3 ρ2 b ρ3 _ g2.env e5 fun H4 g3 => ?_⟩
    have g13 := (gx.trans g2).trans g3.go
    have keepD : ∀ {σa : L2.St} {ρa : Ev} {Ha : Hp}, Go G N (wipe σ vs1) ρk Hc σa ρa Ha → Ha pd = some (.lst acc) := fun ga => ga.fr pd _ hDc (gk.env.notOwn hN)
    have o3 : Outside vs1 (wipe σ vs1) ρk σ3 ρ3 := o2'.trans g3.shape.outside
    have nok : ∀ j ∈ vs1, ∀ d, ρk[j]? ≠ some (Slot.ow true d) := fun j hj d z => by rw [unk j hj] at z; cases z
    have back : ∀ {ρa : Ev} {Ha : Hp}, Go G N (wipe σ vs1) ρk Hc σ3 ρa Ha → Outside vs1 (wipe σ vs1) ρk σ3 ρa →
        Go G N (wipe σ vs1) ρk Hc (wipe σ vs1) (wipeE ρa vs1) Ha ∧ Outside vs1 σ ρ (wipe σ vs1) (wipeE ρa vs1) ∧ ∀ j ∈ vs1, (wipeE ρa vs1)[j]? = some .un := fun {ρa Ha} ga oa => by
      have gz := Go.wipeTail ga nok
      rw [hw3] at gz
      refine ⟨gz, (ok.trans oa).trans ?_, fun j hj => wipeE_in hj ?_⟩
      · have := Outside.wiped (vs := vs1) (σ := σ3) (ρ := ρa)
        rwa [hw3] at this
      · rw [oa.rlen, ok.rlen]
        exact hlen1 j hj
    cases b with
    | false =>
      rw [if_neg (by decide)]
      dsimp only at e3
      split at e3
      · obtain ⟨z1, z2, z3⟩ := back g13 o3
        exact ⟨_, acc, ds, gk.trans (z1.toD pd), z2, z3, keepD g13, z1.repL rl, e3⟩
      · cases e3
    | true =>
      rw [if_pos rfl]
      dsimp only at e3
      obtain ⟨⟨r, ρ4⟩, e6, e3⟩ := Option.bind_eq_some_iff.mp e3
      refine q3 _ σ3 H4 ρ3 r ρ4 _ g3.env e6 fun y H5 g4 ry => ?_
      have g14 := g13.trans g4.go
      cases r with
      | own j => cases e3
      | val dv =>
        dsimp only at e3
        split at e3
        · rename_i hs
          obtain ⟨z1, z2, z3⟩ := back g14 (o3.trans g4.shape.outside)
          have ry : Rep G (MM N σ3 ρ4) H5 y dv := ry
          have rlz := z1.repL rl
          refine ⟨acc, keepD g14, by rw [rl.length]; exact hs.1, _, acc ++ [y], ds ++ [dv], (gk.trans (z1.toD pd)).updF hN, z2, z3, upd_same, ?_, e3⟩
          have hh : ∀ c u, H5 c = some u → ¬ MM N (wipe σ vs1) (wipeE ρ4 vs1) c → upd H5 pd (.lst (acc ++ [y])) c = some u := fun c u e z => by
            rw [upd_ne (fun q => z (by rw [q]; exact .inl hN))]; exact e
          refine (rlz.mono (fun c z => .inl z) hh).append (.cons (ry.mono (fun c z => .inl ?_) fun c u e z => ?_) .nil)
          · rcases z with z | z
            · exact .inl z
            · rw [← hw3] at z
              exact .inr (own_wipe z)
          · rw [upd_ne (fun q => z (by rw [q]; exact .inl hN))]; exact e
        · cases e3
  · have ei : i = its.length := by omega
    subst ei
    rw [List.drop_length] at e3
    cases e3
    exact .inl ⟨h1 (Nat.le_refl _), fin Hc acc gk ok hDc rl⟩
end
noncomputable def lc2L (vs vs1 : List Nat) (st : Option Nat) (all : List D) (g : FG) (k : FT) (fi1 : FV) (g1 : FG) (k1 : FT) (f : FE) : List D → Ev → List D → Option (List D × Ev)
  | [], ρ, acc => some (acc, ρ)
  | d :: ds, ρ, acc => (g d ρ).bind fun ρ1 => (k ρ1).bind fun z => match z.1 with
    | false => if lcL.stableL st all (wipeE z.2 vs) then lc2L vs vs1 st all g k fi1 g1 k1 f ds (wipeE z.2 vs) acc else none
    | true => (fi1 z.2).bind fun y => if noOwn y.2 vs1 then (lcL vs1 none y.1 g1 k1 f y.1 (wipeE y.2 vs1) acc).bind fun w => if lcL.stableL st all (wipeE w.2 vs) then lc2L vs vs1 st all g k fi1 g1 k1 f ds (wipeE w.2 vs) w.1 else none else none
noncomputable def xLc2 (fi : FI) (vs : List Nat) (g : FG) (k : FT) (fi1 : FV) (vs1 : List Nat) (g1 : FG) (k1 : FT) (f : FE) : FN := fun ρ => (fi ρ).bind fun z => if noOwn z.2 vs then (lc2L vs vs1 z.1.2 z.1.1 g k fi1 g1 k1 f z.1.1 (wipeE z.2 vs) []).bind fun y => some (.lst y.1, rst z.2 y.2 vs) else none
section
open Classical
variable {G : Gx}
theorem lc2_prop {wi wi1 : TI} {t t1 : TG} {tt tt1 : TT} {te : TE} {fi : FI} {fi1 : FV} {vs vs1 W W1 : List Nat} {g g1 : FG} {k k1 : FT} {f : FE}
    (q0 : ∀ N σ H ρ z ρ' R, EnvOk G N H σ ρ → fi ρ = some (z, ρ') → (∀ J H', GoE G N σ ρ H ρ' H' → ItOk G N σ ρ' H' J z.1 z.2 → (∀ i0, z.2 = some i0 → ∃ b, ρ'[i0]? = some (Slot.ow b (.lst z.1))) → R J H') → wi σ H R)
    (q1 : ∀ N σ H ρ v d ρ' Q, EnvOk G N H σ ρ → Rep G (MM N σ ρ) H v d → g d ρ = some ρ' → (∀ σ' H', Go G N σ ρ H σ' ρ' H' → Outside W σ ρ σ' ρ' → Q σ' H') → t v σ H Q)
    (q2 : ∀ N σ H ρ b ρ' Q, EnvOk G N H σ ρ → k ρ = some (b, ρ') → (∀ H', GoE G N σ ρ H ρ' H' → Q b H') → tt σ H Q)
    (p0 : ∀ N σ H ρ z ρ' R, EnvOk G N H σ ρ → fi1 ρ = some (z, ρ') → (∀ J H', GoE G N σ ρ H ρ' H' → ItV G N σ ρ' H' J z → R J H') → wi1 σ H R)
    (p1 : ∀ N σ H ρ v d ρ' Q, EnvOk G N H σ ρ → Rep G (MM N σ ρ) H v d → g1 d ρ = some ρ' → (∀ σ' H', Go G N σ ρ H σ' ρ' H' → Outside W1 σ ρ σ' ρ' → Q σ' H') → t1 v σ H Q)
    (p2 : ∀ N σ H ρ b ρ' Q, EnvOk G N H σ ρ → k1 ρ = some (b, ρ') → (∀ H', GoE G N σ ρ H ρ' H' → Q b H') → tt1 σ H Q)
    (q3 : ∀ N σ H ρ r ρ' Q, EnvOk G N H σ ρ → f ρ = some (r, ρ') → (∀ v H', GoE G N σ ρ H ρ' H' → RR G N σ ρ' H' v r → Q v H') → te σ H Q)
    (hW : ∀ j ∈ W, j ∈ vs) (hW1 : ∀ j ∈ W1, j ∈ vs1) (hv : ∀ i ∈ vs1, i ∈ vs) :
    ∀ N σ H ρ d ρ' Q, EnvOk G N H σ ρ → xLc2 fi vs g k fi1 vs1 g1 k1 f ρ = some (d, ρ') → (∀ p H', GoE G (addN N p) σ ρ H ρ' H' → H p = none → OwnN G (addN (MM N σ ρ') p) H' p d → Q (.ref p) H') → tLc2 wi t tt wi1 t1 tt1 te vs vs1 σ H Q := by
  intro N σ H ρ d ρ' Q I e q
  obtain ⟨⟨⟨its, st⟩, ρ1⟩, e1, e⟩ := Option.bind_eq_some_iff.mp e
  split at e
  · rename_i no
    dsimp only at e no
    obtain ⟨⟨out, ρe⟩, e2, e⟩ := Option.bind_eq_some_iff.mp e
    cases e
    refine q0 N σ H ρ (its, st) ρ1 _ I e1 fun J H1 g1' hit hsl => ?_
    dsimp only at hit hsl
    intro D hD
    have hN' : ∀ a, addN N D a → N a ∨ H1 a = none := fun a z => z.elim .inl fun e => .inr (by rw [e]; exact hD)
    have hDD : upd H1 D (.lst []) D ≠ none := by rw [upd_same]; exact (fun z => nomatch z)
    have J1 : EnvOk G (addN N D) (upd H1 D (.lst [])) σ ρ1 := g1'.env.more (same_new hD) hD hDD
    have gb : Go G (addN N D) σ ρ1 H1 σ ρ1 (upd H1 D (.lst [])) := ⟨J1, fun a o e _ => same_new hD a o e, fun a h => (GoE.grow g1'.env (same_new (o := .lst []) hD)).dom a h, fun a h => .inl h, fun i d h => ⟨⟨d, h⟩, rfl⟩⟩
    have gw := gb.trans (Go.wiped (vs := vs) J1 fun j hj d z => (noOwn_at no hj).1 true d z)
    have hlen1 : ∀ j ∈ vs, j < ρ1.length := fun j hj => (noOwn_at no hj).2
    have hst0 : ∀ i0, st = some i0 → i0 ∉ vs := fun i0 h hj => by
      obtain ⟨b, hb⟩ := hsl i0 h
      exact (noOwn_at no hj).1 b _ hb
    refine ⟨fun i m Hc => ∃ ρk acc ds, Go G (addN N D) σ ρ1 H1 (wipe σ vs) ρk Hc ∧ Outside vs σ ρ1 (wipe σ vs) ρk ∧ (∀ j ∈ vs, ρk[j]? = some .un) ∧ (∀ i0, st = some i0 → ∃ b, ρk[i0]? = some (Slot.ow b (.lst its))) ∧
      Hc D = some (.lst acc) ∧ RepL G (MM (addN N D) (wipe σ vs) ρk) Hc acc ds ∧ m = its.length - i ∧ i ≤ its.length ∧ lc2L vs vs1 st its g k fi1 g1 k1 f (its.drop i) ρk ds = some (out, ρe),
      ⟨its.length, wipeE ρ1 vs, [], [], gw, .wiped, fun j hj => wipeE_in hj (hlen1 j hj), fun i0 h => by
        obtain ⟨b, hb⟩ := hsl i0 h
        exact ⟨b, by rw [wipeE_out (hst0 i0 h)]; exact hb⟩, upd_same, .nil, by simp, Nat.zero_le _, by simpa using e2⟩, ?_⟩
    rintro i m Hc ⟨ρk, acc, ds, gk, ok, unk, stk, hDc, rl, rfl, hi, e3⟩
    obtain ⟨h1, h2⟩ := hit (addN N D) hN' (wipe σ vs) ρk Hc i gk fun i0 h => by
      obtain ⟨b, hb⟩ := stk i0 h
      exact ⟨b, hb, wipe_outS (hst0 i0 h)⟩
    have hND : addN N D D := .inr rfl
    by_cases hlt : i < its.length
    · have hd : its[i]? = some its[i] := List.getElem?_eq_getElem hlt
      obtain ⟨hgo, hy⟩ := h2 _ hd
      rw [List.drop_eq_getElem_cons hlt] at e3
      unfold lc2L at e3
      obtain ⟨ρ2, e4, e3⟩ := Option.bind_eq_some_iff.mp e3
      obtain ⟨⟨b, ρ3⟩, e5, e3⟩ := Option.bind_eq_some_iff.mp e3
      refine .inr ⟨hgo, fun H' => ∃ ρ' acc ds, Go G (addN N D) σ ρ1 H1 (wipe σ vs) ρ' H' ∧ Outside vs σ ρ1 (wipe σ vs) ρ' ∧ (∀ j ∈ vs, ρ'[j]? = some .un) ∧ (∀ i0, st = some i0 → ∃ b, ρ'[i0]? = some (Slot.ow b (.lst its))) ∧
        H' D = some (.lst acc) ∧ RepL G (MM (addN N D) (wipe σ vs) ρ') H' acc ds ∧ lc2L vs vs1 st its g k fi1 g1 k1 f (its.drop (i + 1)) ρ' ds = some (out, ρe),
        fun H' ⟨ρ', acc, ds, k1, k2, k3, k4, k5, k6, k7⟩ => ⟨its.length - (i + 1), by omega, ρ', acc, ds, k1, k2, k3, k4, k5, k6, rfl, hlt, k7⟩, fun x H' hx => ?_⟩
      obtain ⟨sm, rx⟩ := hy x H' hx
      have gx := Go.trans (Go.refl gk.env) (GoE.grow gk.env sm).go
      refine q1 _ (wipe σ vs) H' ρk x _ ρ2 _ gx.env rx e4 fun σ3 H3 g2 o2 => ?_
      have o2' := o2.mono hW
      have hw3 : wipe σ3 vs = wipe σ vs := wipe_eq (o2'.slen.trans (wipe_length _ _)) fun j hj => by rw [o2'.st j hj, wipe_outS hj]
      refine ⟨hw3, q2 _ σ3 H3 ρ2 b ρ3 _ g2.env e5 fun H4 g3 => ?_⟩
      have g13 := (gx.trans g2).trans g3.go
      have keepD : ∀ {σa : L2.St} {ρa : Ev} {Ha : Hp}, Go G (addN N D) (wipe σ vs) ρk Hc σa ρa Ha → Ha D = some (.lst acc) := fun ga => ga.fr D _ hDc (gk.env.notOwn hND)
      have o3 : Outside vs (wipe σ vs) ρk σ3 ρ3 := o2'.trans g3.shape.outside
      have stabl : ∀ ρz, lcL.stableL st its ρz = true → ∀ i0, st = some i0 → ∃ b, ρz[i0]? = some (Slot.ow b (.lst its)) := fun ρz hz i0 h => by
        subst h
        unfold lcL.stableL at hz
        exact of_decide_eq_true hz
      have nok : ∀ j ∈ vs, ∀ d, ρk[j]? ≠ some (Slot.ow true d) := fun j hj d z => by rw [unk j hj] at z; cases z
      have back : ∀ {σa : L2.St} {ρa : Ev} {Ha : Hp}, wipe σa vs = wipe σ vs → GoD G (addN N D) D (wipe σ vs) ρk Hc σa ρa Ha → Outside vs (wipe σ vs) ρk σa ρa →
          Go G (addN N D) σ ρ1 H1 (wipe σ vs) (wipeE ρa vs) Ha ∧ Outside vs σ ρ1 (wipe σ vs) (wipeE ρa vs) ∧ ∀ j ∈ vs, (wipeE ρa vs)[j]? = some .un := fun {σa ρa Ha} hw ga oa => by
        have gz : GoD G (addN N D) D (wipe σ vs) ρk Hc (wipe σa vs) (wipeE ρa vs) Ha := by
          refine ⟨ga.env.wipe vs, ga.fr, ga.dom, fun a h => ga.own a (own_wipe h), fun j d h => ?_⟩
          have hj : j ∉ vs := fun z => nok j z d h
          obtain ⟨⟨d', e1⟩, e2⟩ := ga.pin j d h
          exact ⟨⟨d', by rw [wipeE_out hj]; exact e1⟩, by rw [wipe_outS hj]; exact e2⟩
        rw [hw] at gz
        refine ⟨gk.transD gz hD, (ok.trans oa).trans ?_, fun j hj => wipeE_in hj ?_⟩
        · have := Outside.wiped (vs := vs) (σ := σa) (ρ := ρa)
          rwa [hw] at this
        · rw [oa.rlen, ok.rlen]
          exact hlen1 j hj
      cases b with
      | false =>
        rw [if_neg (by decide)]
        dsimp only at e3
        split at e3
        · rename_i hs
          obtain ⟨z1, z2, z3⟩ := back hw3 (g13.toD D) o3
          refine ⟨_, acc, ds, z1, z2, z3, stabl _ hs, keepD g13, ?_, e3⟩
          have := Go.wipeTail g13 nok
          rw [hw3] at this
          exact this.repL rl
        · cases e3
      | true =>
        rw [if_pos rfl]
        dsimp only at e3
        obtain ⟨⟨its1, ρ4⟩, e6, e3⟩ := Option.bind_eq_some_iff.mp e3
        split at e3
        · rename_i no1
          dsimp only at no1 e3
          obtain ⟨⟨out1, ρw⟩, e7, e3⟩ := Option.bind_eq_some_iff.mp e3
          refine p0 _ σ3 H4 ρ3 its1 ρ4 _ g3.env e6 fun Jn H5 g4 hv1 => ?_
          have g14 := g13.trans g4.go
          have rl5 := g14.repL rl
          refine lc_in p1 p2 q3 hW1 (pd := D) hND g4.env (keepD g14) rl5 no1 hv1 e7 fun Hw accw gw1 ow1 hDw rw1 => ?_
          dsimp only at e3
          split at e3
          · rename_i hs
            have hww : wipe (wipe σ3 vs1) vs = wipe σ vs := by
              rw [← hw3]
              exact wipe_eq (wipe_length _ _) fun j hj => wipe_outS fun z => hj (hv j z)
            obtain ⟨z1, z2, z3⟩ := back hww ((g14.toD D).trans gw1) ((o3.trans g4.shape.outside).trans (ow1.mono hv))
            refine ⟨_, accw, out1, z1, z2, z3, stabl _ hs, hDw, rw1.mono (fun c z => .inl ?_) fun _ _ e _ => e, e3⟩
            rw [← hww] at z
            exact z.elim .inl fun z => .inr (own_wipe z)
          · cases e3
        · cases e3
    · have ei : i = its.length := by omega
      subst ei
      rw [List.drop_length] at e3
      cases e3
      refine .inl ⟨h1 (Nat.le_refl _), ?_⟩
      have gr := rst_go g1'.env hN' no gk ok unk
      refine q D Hc (g1'.trans' gr) (back_none g1'.dom hD) ?_
      refine .lst hDc (rl.mono (fun c z => .inl ?_) fun _ _ e _ => e)
      rw [← mm_add] at z
      rcases z with z | ⟨j, b, d, e5, e6⟩
      · exact .inl z
      · refine .inr ?_
        by_cases hj : j ∈ vs
        · obtain ⟨na, hl⟩ := noOwn_at no hj
          rw [rst_in hj (by rw [ok.rlen]; exact hl), List.getD_eq_getElem?_getD, List.getElem?_eq_getElem hl] at e5
          exact (na b d (by rw [List.getElem?_eq_getElem hl]; exact e5)).elim
        · rw [rst_out hj] at e5
          exact ⟨j, b, d, e5, by rw [wipe_outS hj]; exact e6⟩
  · cases e
def tiV (G : Gx) (f : FV) : TI := fun σ H R => ∃ N ρ z ρ', EnvOk G N H σ ρ ∧ f ρ = some (z, ρ') ∧ ∀ J H', GoE G N σ ρ H ρ' H' → ItV G N σ ρ' H' J z → R J H'
theorem DIV.pi {X : Cx} {tg e : Expr} {f : FV} (h : DIV G X tg e f) : PI X tg e (tiV G f) := by
  obtain ⟨t, p, q⟩ := h.ex
  exact ⟨fun pins s σ H R I ⟨N, ρ, z, ρ', h1, h2, h3⟩ => p.run pins s σ H R I (q N σ H ρ z ρ' R h1 h2 h3)⟩
variable {X : Cx} {elt tg iter tg1 iter1 : Expr} {ifs ifs1 : List Expr} {scope : Scope} {pos : Pos} {fi : FI} {fi1 : FV} {g g1 : FG} {k k1 : FT} {f : FE} {W W1 : List Nat}
theorem n_lc2 (own : List (Str × Nat)) (vs1 : List Nat) (hN : X.N.Nodup) (hi : DI G X tg iter fi)
    (hg : ∀ (s : Shared) (H : Hp) (C : Addr) (cl : List (Str × Addr)) (fp : List Addr), DG G (X.blk s H scope (compEnvC scope cl C X.env) fp) W tg g)
    (ht : ∀ (s : Shared) (H : Hp) (C : Addr) (cl : List (Str × Addr)) (fp : List Addr), DTs G (X.blk s H scope (compEnvC scope cl C X.env) fp) ifs k)
    (hi1 : ∀ (s : Shared) (H : Hp) (C : Addr) (cl : List (Str × Addr)) (fp : List Addr), DIV G (X.blk s H scope (compEnvC scope cl C X.env) fp) tg1 iter1 fi1)
    (hg1 : ∀ (s : Shared) (H : Hp) (C : Addr) (cl : List (Str × Addr)) (fp : List Addr), DG G (X.blk s H scope (compEnvC scope cl C X.env) fp) W1 tg1 g1)
    (ht1 : ∀ (s : Shared) (H : Hp) (C : Addr) (cl : List (Str × Addr)) (fp : List Addr), DTs G (X.blk s H scope (compEnvC scope cl C X.env) fp) ifs1 k1)
    (he : ∀ (s : Shared) (H : Hp) (C : Addr) (cl : List (Str × Addr)) (fp : List Addr), DE G (X.blk s H scope (compEnvC scope cl C X.env) fp) elt f)
    (hc : X.calm = true := by rfl) (ok : blkC X.N X.env.scope scope own = true := by rfl) (hW : ∀ j ∈ W, j ∈ own.map (·.2) := by decide) (hW1 : ∀ j ∈ W1, j ∈ vs1 := by decide) (hv : ∀ i ∈ vs1, i ∈ own.map (·.2) := by decide)
    (hs : ∀ x, foldedSetIterable iter X.env x = pure x := by exact fun _ => rfl) (hs1 : ∀ env x, foldedSetIterable iter1 env x = pure x := by exact fun _ _ => rfl) :
    DN G X (.ListComp elt [⟨tg, iter, ifs, 0⟩, ⟨tg1, iter1, ifs1, 0⟩] scope pos) (xLc2 fi (own.map (·.2)) g k fi1 vs1 g1 k1 f) := by
  obtain ⟨wi, pi, q0⟩ := hi.ex
  refine ⟨_, pe_lc2 hc hN pi (blkOk_by ok) hv (fun s H C cl fp => (hg s H C cl fp).pg) (fun s H C cl fp => (ht s H C cl fp).pt) (fun s H C cl fp => (hi1 s H C cl fp).pi) (fun s H C cl fp => (hg1 s H C cl fp).pg) (fun s H C cl fp => (ht1 s H C cl fp).pt) (fun s H C cl fp => (he s H C cl fp).pe) hs hs1, ?_⟩
  exact lc2_prop q0 (fun N σ H ρ v d ρ' Q h1 h2 h3 h4 => ⟨N, ρ, d, ρ', h1, h2, h3, h4⟩) (fun N σ H ρ b ρ' Q h1 h2 h3 => ⟨N, ρ, b, ρ', h1, h2, h3⟩) (fun N σ H ρ z ρ' R h1 h2 h3 => ⟨N, ρ, z, ρ', h1, h2, h3⟩) (fun N σ H ρ v d ρ' Q h1 h2 h3 h4 => ⟨N, ρ, d, ρ', h1, h2, h3, h4⟩)
    (fun N σ H ρ b ρ' Q h1 h2 h3 => ⟨N, ρ, b, ρ', h1, h2, h3⟩) (fun N σ H ρ r ρ' Q h1 h2 h3 => ⟨N, ρ, r, ρ', h1, h2, h3⟩) hW hW1 hv
theorem as_lc2 (i : Nat) {y : Str} {py spos : Pos} (own : List (Str × Nat)) (vs1 : List Nat) (hN : X.N.Nodup) (hi : DI G X tg iter fi)
    (hg : ∀ (s : Shared) (H : Hp) (C : Addr) (cl : List (Str × Addr)) (fp : List Addr), DG G (X.blk s H scope (compEnvC scope cl C X.env) fp) W tg g)
    (ht : ∀ (s : Shared) (H : Hp) (C : Addr) (cl : List (Str × Addr)) (fp : List Addr), DTs G (X.blk s H scope (compEnvC scope cl C X.env) fp) ifs k)
    (hi1 : ∀ (s : Shared) (H : Hp) (C : Addr) (cl : List (Str × Addr)) (fp : List Addr), DIV G (X.blk s H scope (compEnvC scope cl C X.env) fp) tg1 iter1 fi1)
    (hg1 : ∀ (s : Shared) (H : Hp) (C : Addr) (cl : List (Str × Addr)) (fp : List Addr), DG G (X.blk s H scope (compEnvC scope cl C X.env) fp) W1 tg1 g1)
    (ht1 : ∀ (s : Shared) (H : Hp) (C : Addr) (cl : List (Str × Addr)) (fp : List Addr), DTs G (X.blk s H scope (compEnvC scope cl C X.env) fp) ifs1 k1)
    (he : ∀ (s : Shared) (H : Hp) (C : Addr) (cl : List (Str × Addr)) (fp : List Addr), DE G (X.blk s H scope (compEnvC scope cl C X.env) fp) elt f)
    (hy : X.N[i]? = some y) (hyl : X.env.scope.names.lookup y = some .local)
    (hsw : swapsWith (.ListComp elt [⟨tg, iter, ifs, 0⟩, ⟨tg1, iter1, ifs1, 0⟩] scope pos) (some (.Name y py)) spos.line X.env = pure true)
    (hc : X.calm = true) (ok : blkC X.N X.env.scope scope own = true) (hW : ∀ j ∈ W, j ∈ own.map (·.2)) (hW1 : ∀ j ∈ W1, j ∈ vs1) (hv : ∀ i ∈ vs1, i ∈ own.map (·.2))
    (hs : ∀ x, foldedSetIterable iter X.env x = pure x) (hs1 : ∀ env x, foldedSetIterable iter1 env x = pure x) :
    DAsN G X (.Assign [.Name y py] (.ListComp elt [⟨tg, iter, ifs, 0⟩, ⟨tg1, iter1, ifs1, 0⟩] scope pos) spos) i (xLc2 fi (own.map (·.2)) g k fi1 vs1 g1 k1 f) := by
  obtain ⟨wi, pi, q0⟩ := hi.ex
  refine ⟨_, ps_setLc2 hc hN hy hyl hsw pi (blkOk_by ok) hv (fun s H C cl fp => (hg s H C cl fp).pg) (fun s H C cl fp => (ht s H C cl fp).pt) (fun s H C cl fp => (hi1 s H C cl fp).pi) (fun s H C cl fp => (hg1 s H C cl fp).pg) (fun s H C cl fp => (ht1 s H C cl fp).pt) (fun s H C cl fp => (he s H C cl fp).pe) hs hs1, ?_⟩
  exact lc2_prop q0 (fun N σ H ρ v d ρ' Q h1 h2 h3 h4 => ⟨N, ρ, d, ρ', h1, h2, h3, h4⟩) (fun N σ H ρ b ρ' Q h1 h2 h3 => ⟨N, ρ, b, ρ', h1, h2, h3⟩) (fun N σ H ρ z ρ' R h1 h2 h3 => ⟨N, ρ, z, ρ', h1, h2, h3⟩) (fun N σ H ρ v d ρ' Q h1 h2 h3 h4 => ⟨N, ρ, d, ρ', h1, h2, h3, h4⟩)
    (fun N σ H ρ b ρ' Q h1 h2 h3 => ⟨N, ρ, b, ρ', h1, h2, h3⟩) (fun N σ H ρ r ρ' Q h1 h2 h3 => ⟨N, ρ, r, ρ', h1, h2, h3⟩) hW hW1 hv
theorem s_setLcN2 (i : Nat) {y : Str} {py spos : Pos} (own : List (Str × Nat)) (vs1 : List Nat) (hN : X.N.Nodup) (hi : DI G X tg iter fi)
    (hg : ∀ (s : Shared) (H : Hp) (C : Addr) (cl : List (Str × Addr)) (fp : List Addr), DG G (X.blk s H scope (compEnvC scope cl C X.env) fp) W tg g)
    (ht : ∀ (s : Shared) (H : Hp) (C : Addr) (cl : List (Str × Addr)) (fp : List Addr), DTs G (X.blk s H scope (compEnvC scope cl C X.env) fp) ifs k)
    (hi1 : ∀ (s : Shared) (H : Hp) (C : Addr) (cl : List (Str × Addr)) (fp : List Addr), DIV G (X.blk s H scope (compEnvC scope cl C X.env) fp) tg1 iter1 fi1)
    (hg1 : ∀ (s : Shared) (H : Hp) (C : Addr) (cl : List (Str × Addr)) (fp : List Addr), DG G (X.blk s H scope (compEnvC scope cl C X.env) fp) W1 tg1 g1)
    (ht1 : ∀ (s : Shared) (H : Hp) (C : Addr) (cl : List (Str × Addr)) (fp : List Addr), DTs G (X.blk s H scope (compEnvC scope cl C X.env) fp) ifs1 k1)
    (he : ∀ (s : Shared) (H : Hp) (C : Addr) (cl : List (Str × Addr)) (fp : List Addr), DE G (X.blk s H scope (compEnvC scope cl C X.env) fp) elt f)
    (hy : X.N[i]? = some y := by rfl) (hyl : X.env.scope.names.lookup y = some .local := by rfl)
    (hsw : swapsWith (.ListComp elt [⟨tg, iter, ifs, 0⟩, ⟨tg1, iter1, ifs1, 0⟩] scope pos) (some (.Name y py)) spos.line X.env = pure true := by rfl)
    (hc : X.calm = true := by rfl) (ok : blkC X.N X.env.scope scope own = true := by rfl) (hW : ∀ j ∈ W, j ∈ own.map (·.2) := by decide) (hW1 : ∀ j ∈ W1, j ∈ vs1 := by decide) (hv : ∀ i ∈ vs1, i ∈ own.map (·.2) := by decide)
    (hs : ∀ x, foldedSetIterable iter X.env x = pure x := by exact fun _ => rfl) (hs1 : ∀ env x, foldedSetIterable iter1 env x = pure x := by exact fun _ _ => rfl) :
    DS G X (.Assign [.Name y py] (.ListComp elt [⟨tg, iter, ifs, 0⟩, ⟨tg1, iter1, ifs1, 0⟩] scope pos) spos) (sSetN i (xLc2 fi (own.map (·.2)) g k fi1 vs1 g1 k1 f)) := (as_lc2 i own vs1 hN hi hg ht hi1 hg1 ht1 he hy hyl hsw hc ok hW hW1 hv hs hs1).set
theorem s_setLc2 (i : Nat) {y : Str} {py spos : Pos} (own : List (Str × Nat)) (vs1 : List Nat) (hN : X.N.Nodup) (hi : DI G X tg iter fi)
    (hg : ∀ (s : Shared) (H : Hp) (C : Addr) (cl : List (Str × Addr)) (fp : List Addr), DG G (X.blk s H scope (compEnvC scope cl C X.env) fp) W tg g)
    (ht : ∀ (s : Shared) (H : Hp) (C : Addr) (cl : List (Str × Addr)) (fp : List Addr), DTs G (X.blk s H scope (compEnvC scope cl C X.env) fp) ifs k)
    (hi1 : ∀ (s : Shared) (H : Hp) (C : Addr) (cl : List (Str × Addr)) (fp : List Addr), DIV G (X.blk s H scope (compEnvC scope cl C X.env) fp) tg1 iter1 fi1)
    (hg1 : ∀ (s : Shared) (H : Hp) (C : Addr) (cl : List (Str × Addr)) (fp : List Addr), DG G (X.blk s H scope (compEnvC scope cl C X.env) fp) W1 tg1 g1)
    (ht1 : ∀ (s : Shared) (H : Hp) (C : Addr) (cl : List (Str × Addr)) (fp : List Addr), DTs G (X.blk s H scope (compEnvC scope cl C X.env) fp) ifs1 k1)
    (he : ∀ (s : Shared) (H : Hp) (C : Addr) (cl : List (Str × Addr)) (fp : List Addr), DE G (X.blk s H scope (compEnvC scope cl C X.env) fp) elt f)
    (hy : X.N[i]? = some y := by rfl) (hyl : X.env.scope.names.lookup y = some .local := by rfl)
    (hsw : swapsWith (.ListComp elt [⟨tg, iter, ifs, 0⟩, ⟨tg1, iter1, ifs1, 0⟩] scope pos) (some (.Name y py)) spos.line X.env = pure true := by rfl)
    (hc : X.calm = true := by rfl) (ok : blkC X.N X.env.scope scope own = true := by rfl) (hW : ∀ j ∈ W, j ∈ own.map (·.2) := by decide) (hW1 : ∀ j ∈ W1, j ∈ vs1 := by decide) (hv : ∀ i ∈ vs1, i ∈ own.map (·.2) := by decide)
    (hs : ∀ x, foldedSetIterable iter X.env x = pure x := by exact fun _ => rfl) (hs1 : ∀ env x, foldedSetIterable iter1 env x = pure x := by exact fun _ _ => rfl) :
    DS G X (.Assign [.Name y py] (.ListComp elt [⟨tg, iter, ifs, 0⟩, ⟨tg1, iter1, ifs1, 0⟩] scope pos) spos) (sSet i (xNew (xLc2 fi (own.map (·.2)) g k fi1 vs1 g1 k1 f))) := (as_lc2 i own vs1 hN hi hg ht hi1 hg1 ht1 he hy hyl hsw hc ok hW hW1 hv hs hs1).as.set
theorem t_val {a : Expr} (ha : DE G X a f) (he : ∀ whole, isTrue a X.env whole = (do let v ← whole; standAt a.pos; holding [v] (truthy v)) := by exact fun _ => rfl) : DT G X a (xTru f) := DT.val ha he
end
end DL

set_option maxRecDepth 100000
set_option maxHeartbeats 2000000
/-! ### len(set(xs)), xs a list of tuples of ints and such tuples: the table is run -/
namespace L2
open PySem PySem.Spec PyProof.Rows
/-- one more hash in the table, where no equal one stands -/
def dlAdd (hs : Array Int) (t : SetTable) (h : Int) : Option (Array Int × SetTable) :=
  if t.fits hs.size && !t.gaveWay && t.plain && decide (hs.size < 4000) then
    match t.probe (fun i => (hs[i]?).getD 0) h (t.probeStart h) with
    | some (.empty j none) =>
      let p := SetTable.below t.place j
      let t1 := (t.put j).1
      let hs1 := SetTable.insertAt hs p h
      if t1.tooFull then
        if t1.fits hs1.size && decide (SetTable.sizeAbove (SetTable.grown (hs.size + 1)) ≤ sizeLine) then
          match t1.relaid hs1 (SetTable.grown (hs.size + 1)) with
          | some (t2, order) => if (order.filterMap (hs1[·]?)).size == hs1.size then some (order.filterMap (hs1[·]?), t2) else none
          | none => none
        else none
      else some (hs1, t1)
    | _ => none
  else none
def dlAll : List Int → Array Int × SetTable → Option (Array Int × SetTable)
  | [], z => some z
  | h :: hs, z => (dlAdd z.1 z.2 h).bind fun z2 => dlAll hs z2
section
variable {P : Program} {w : World} {A : Around} {E : Value → Shared → Prop} {s : Shared}
mutual
def dlPlain : NestedKey → Bool
  | .num _ => true
  | .tup ks => dlPlains ks
  | _ => false
def dlPlains : List NestedKey → Bool
  | [] => true
  | k :: ks => dlPlain k && dlPlains ks
end
def HashesAt (P : Program) (w : World) (n : Nat) (s : Shared) (v : Value) : Prop := ∀ (A : Around) (E : Value → Shared → Prop) (Q : Bool → Shared → Prop), Q true s → wpAny (model P w) A (hashByValue n v) Q E s
theorem hashes_tup {n : Nat} {a : Addr} {o : Obj} {vs : Array Value} {m : Nat} (ho : s.heap.get? a = some o) (hc : o.cls = .type "tuple") (hd : o.data = .seq vs m) (hq : ∀ v ∈ vs.toList, HashesAt P w n s v) : HashesAt P w (n + 1) s (.ref a) := fun A E Q h => by
  have hT : s.TypeIs (.ref a) "tuple" := ⟨o, ho, hc⟩
  unfold hashByValue
  refine wpAny_bind (wpAny_specialOf hT F.slot_tuple_hash.lookup ?_)
  show wpAny _ _ (seqItems? (.ref a) >>= _) _ _ s
  refine wpAny_bind (wpAny_seqItems ho hd ?_)
  refine wpAny_bind ?_
  show wpAny _ _ (forIn vs _ _) _ _ s
  rw [← Array.forIn_toList]
  refine wpAny_forIn_list _ (fun rest r s' => r.1 = none ∧ s' = s ∧ ∀ v ∈ rest, HashesAt P w n s v) _ ?_ ?_ _ _ ⟨rfl, rfl, hq⟩
  · rintro v rest r s' ⟨hr, rfl, hall⟩
    refine wpAny_bind (hall v List.mem_cons_self _ _ _ ?_)
    simp only [Bool.not_true, Bool.false_eq_true, if_false]
    exact wpAny_pure ⟨rfl, rfl, fun u hu' => hall u (List.mem_cons_of_mem _ hu')⟩
  · rintro ⟨r1, r2⟩ s' ⟨hr, rfl, _⟩
    simp only at hr
    subst hr
    exact wpAny_pure h
mutual
theorem hashes_key : ∀ (k : NestedKey) (v : Value) (n : Nat) (s : Shared), NestedIs s.heap k v → k.depth ≤ n → dlPlain k = true → HashesAt P w n s v
  | .none, _, n, s, x, _, hp => by simp [dlPlain] at hp
  | .text _, _, n, s, x, _, hp => by simp [dlPlain] at hp
  | .num i, _, n, s, x, _, _ => by
    cases x with
    | bool e => intro A E Q h; cases n <;> (unfold hashByValue; exact wpAny_pure h)
    | int i t => intro A E Q h; cases n <;> (unfold hashByValue; exact wpAny_pure h)
  | .tup ks, _, n, s, x, hn, hp => by
    cases x with
    | tup hg hc hd hk =>
      simp only [NestedKey.depth] at hn
      cases n with
      | zero => omega
      | succ n => exact hashes_tup hg hc hd (hashes_keys ks _ n s hk (by omega) (by simpa [dlPlain] using hp))
theorem hashes_keys : ∀ (ks : List NestedKey) (vs : List Value) (n : Nat) (s : Shared), NestedAll s.heap ks vs → NestedKey.depthAll ks ≤ n → dlPlains ks = true → ∀ v ∈ vs, HashesAt P w n s v
  | [], _, n, s, x, _, _, v, hv => by cases x; cases hv
  | k :: ks, _, n, s, x, hn, hp, v, hv => by
    cases x with
    | cons x1 x2 =>
      simp only [NestedKey.depthAll] at hn
      rw [dlPlains, Bool.and_eq_true] at hp
      rcases List.mem_cons.mp hv with e | hv
      · rw [e]; exact hashes_key k _ n s x1 (by omega) hp.1
      · exact hashes_keys ks _ n s x2 (by omega) hp.2 v hv
end
theorem arr_insert (es : Array (Int × Value)) (p : Nat) (h : Int) (x : Value) : (SetTable.insertAt es p (h, x)).map (·.1) = SetTable.insertAt (es.map (·.1)) p h := by
  apply Array.toList_inj.mp
  rw [Array.toList_map, SetTable.toList_insertAt, SetTable.toList_insertAt, Array.toList_map, List.map_append, List.map_cons, List.map_take, List.map_drop]
theorem arr_order (es : Array (Int × Value)) (order : Array Nat) : (order.filterMap (es[·]?)).map (·.1) = order.filterMap ((es.map (·.1))[·]?) := by
  apply Array.toList_inj.mp
  rw [Array.toList_map, Array.toList_filterMap, Array.toList_filterMap, List.map_filterMap]
  congr 1
  funext i
  rw [Array.getElem?_map]
/-- the set at a, by its hashes -/
def DlSet (h : Heap) (a : Addr) (hs : Array Int) (t : SetTable) : Prop := ∃ o es ep, h.get? a = some o ∧ o.ExactSet ∧ o.data = .set es ep t ∧ es.map (·.1) = hs
theorem dl_add {a x : Addr} {hs hs' : Array Int} {t t' : SetTable} {h : Int} (R : DlSet s.heap a hs t) (hx : HashesAt P w 8 s (.ref x)) (e : dlAdd hs t h = some (hs', t')) {Q : Bool → Shared → Prop}
    (hQ : ∀ b h', Heap.SameBut a s.heap h' → DlSet h' a hs' t' → Q b { s with heap := h' }) : wpAny (model P w) A (setAddHashed a (.ref x) h) Q E s := by
  obtain ⟨o, es, ep, ho, hex, hd, rfl⟩ := R
  have hsz : (es.map (·.1)).size = es.size := Array.size_map
  unfold dlAdd at e
  split at e
  · rename_i hc
    simp only [Bool.and_eq_true, Bool.not_eq_true', decide_eq_true_eq] at hc
    obtain ⟨⟨⟨hf, hg⟩, hp⟩, hz⟩ := hc
    rw [hsz] at hf hz
    have hsl := sizeLine_eq
    unfold setAddHashed
    refine wpAny_holding ?_
    rw [show (100000 : Nat) = 99999 + 1 from rfl, setAddHashedIn_succ]
    refine wpAny_bind (wpAny_setState_of ho hd hf ?_)
    dsimp only
    refine wp_if_neg (by simp [byScan, Value.scannable]) ?_
    try refine wpAny_bind (wpAny_pure ?_)
    split at e
    · rename_i j hpr
      have hpr2 : t.probe (fun i => (es[i]?.map (·.1)).getD 0) h (Option.none.getD (t.probeStart h)) = some (.empty j none) := by
        rw [← hpr]
        congr 1
        funext i
        rw [Array.getElem?_map]
      refine wpAny_bind (?_ : wpAny _ _ (setSearch a (.ref x) h true) _ _ s)
      unfold setSearch
      rw [show (100000 : Nat) = 99999 + 1 from rfl, setSearchFrom_succ]
      refine wpAny_bind (wpAny_setState_of ho hd hf ?_)
      dsimp only
      refine wp_if_neg (by rw [hg]; decide) ?_
      try refine wpAny_bind (wpAny_pure ?_)
      rw [hpr2]
      dsimp only
      refine wpAny_pure ?_
      dsimp only
      refine wpAny_bind (wpAny_setState_of ho hd hf ?_)
      dsimp only at e ⊢
      have hput : (t.put j).2 = SetTable.below t.place j := rfl
      have hpl : (t.put j).1.plain = true := hp
      rw [← hput] at e
      generalize hpt : t.put j = pt at e hpl ⊢
      obtain ⟨t1, p⟩ := pt
      dsimp only at e hpl ⊢
      first
        | (refine wpAny_bind ?_; refine wp_if_pos hpl ?_; refine hx _ _ _ ?_)
        | refine wp_if_pos hpl (wpAny_bind (hx _ _ _ ?_))
      simp only [if_true]
      rw [← arr_insert es p h (Value.ref x)] at e
      have hes : (SetTable.insertAt es p (h, Value.ref x)).size = es.size + 1 := by
        rw [← Array.length_toList, SetTable.toList_insertAt, List.length_append, List.length_cons, List.length_take, List.length_drop, Array.length_toList]
        omega
      generalize SetTable.insertAt es p (h, Value.ref x) = es1 at hes e ⊢
      refine wpAny_bind (wpAny_storeSet_of ho hd ?_ (by rw [hes]; omega))
      have sb : Heap.SameBut a s.heap (s.heap.update a (Obj.putSet es1 t1)) := Heap.SameBut.update ..
      have ho1 := store_at (es' := es1) (t' := t1) ho hd
      generalize s.heap.update a (Obj.putSet es1 t1) = h1 at sb ho1 ⊢
      rw [hsz, show (es1.map (·.1)).size = es1.size from Array.size_map] at e
      split at e
      · rename_i hfull
        split at e
        · rename_i hc2
          simp only [Bool.and_eq_true, decide_eq_true_eq] at hc2
          obtain ⟨hf2, hw2⟩ := hc2
          split at e
          · rename_i t2 order hrel
            split at e
            · rename_i hs2
              cases e
              first
                | (refine wpAny_bind ?_; refine wp_if_pos (by simp [hfull]) ?_)
                | (refine wp_if_pos (by simp [hfull]) ?_; refine wpAny_bind ?_)
              rw [setRelay_eq]
              refine wpAny_bind (wpAny_setState_of (s := { s with heap := h1 }) ho1 rfl hf2 ?_)
              dsimp only
              refine wp_if_neg (by omega) ?_
              try refine wpAny_bind (wpAny_pure ?_)
              rw [hrel]
              dsimp only
              have hs3 : (order.filterMap (es1[·]?)).size = es1.size := by
                have h2 := beq_iff_eq.mp hs2
                rw [← arr_order, Array.size_map] at h2
                exact h2
              refine wpAny_bind ?_
              refine wp_if_neg (by rw [hs3]; simp) ?_
              try refine wpAny_bind (wpAny_pure ?_)
              refine wpAny_pure ?_
              dsimp only
              refine wpAny_storeSet_of (s := { s with heap := h1 }) ho1 rfl ?_ (by rw [hs3, hes]; omega)
              have sb2 : Heap.SameBut a h1 (h1.update a (Obj.putSet (order.filterMap (es1[·]?)) t')) := Heap.SameBut.update ..
              refine wpAny_pure (hQ true _ (sb.trans sb2) ⟨_, _, _, store_at ho1 rfl, ⟨hex.1, hex.2.1, hex.2.2⟩, rfl, arr_order _ _⟩)
            · cases e
          · cases e
        · cases e
      · rename_i hfull
        cases e
        first
          | (refine wpAny_bind ?_; refine wp_if_neg (by simp [hfull]) ?_; refine wpAny_pure ?_)
          | (refine wp_if_neg (by simp [hfull]) ?_)
        exact wpAny_pure (hQ true h1 sb ⟨_, _, _, ho1, ⟨hex.1, hex.2.1, hex.2.2⟩, rfl, rfl⟩)
    · cases e
  · cases e
/-- set.update's loop over such keys -/
theorem dl_loop {I : Addr} {fp wr : List Addr} {G : Array GenState → Array GenState → Prop} {n : Nat} {Pv : Nat → Value → Prop} {St : Nat → Shared → Prop} {R : Result → Shared → Prop}
    (W : WalksS P w A.in1 I fp wr G n Pv St) (S : Addr) (hSf : S ∉ fp) (ks : List (Addr × NestedKey)) (hn : n = ks.length) (hval : ∀ i v, Pv i v → ∃ p, ks[i]? = some p ∧ v = .ref p.1)
    (h0 : Heap) (hk : ∀ p ∈ ks, NestedIs h0 p.2 (.ref p.1) ∧ p.2.depth ≤ 8 ∧ dlPlain p.2 = true) (hS0 : h0.get? S = none) (hw0 : ∀ b ∈ wr, h0.get? b = none) (hu : A.in1.units + 8 < cLine) {z : Array Int × SetTable} :
    ∀ (k i : Nat) (s : Shared) (hs : Array Int) (t : SetTable), n - i = k → i ≤ n → St i s → (∀ b o, h0.get? b = some o → s.heap.get? b = some o) → DlSet s.heap S hs t → dlAll ((ks.drop i).map fun p => p.2.hash w) (hs, t) = some z →
      (∀ s', Moved (S :: wr) G s s' → DlSet s'.heap S z.1 z.2 → (∀ b o, h0.get? b = some o → s'.heap.get? b = some o) → R (.ok (.ret .none)) s') →
      codeAny (model P w) A (.builtin "set.update.loop" ⟨[.ref S, .ref I], []⟩) R s := by
  have hSw : S ∉ wr := fun h => hSf (W.sub _ h)
  have hsub : ∀ b ∈ wr, b ∈ S :: wr := fun b hb => List.mem_cons_of_mem _ hb
  have keepM : ∀ {s s' : Shared}, Moved wr G s s' → (∀ b o, h0.get? b = some o → s.heap.get? b = some o) → ∀ b o, h0.get? b = some o → s'.heap.get? b = some o := fun hm hkp b o e =>
    hm.heap b o (fun hb => by rw [hw0 b hb] at e; cases e) (hkp b o e)
  have atM : ∀ {h h' : Heap} {hs : Array Int} {t : SetTable}, (∀ o, h.get? S = some o → h'.get? S = some o) → DlSet h S hs t → DlSet h' S hs t := fun hh ⟨o, es, ep, e, r⟩ => ⟨o, es, ep, hh o e, r⟩
  intro k
  induction k with
  | zero =>
    intro i s hs t hk' hi hst hkp hS e hR
    have hin : i = n := by omega
    subst hin
    rw [List.drop_of_length_le (by omega)] at e
    cases e
    refine codeAny_builtin F.entry_set_update_loop ?_
    rw [Around.under_plainId F.plain_set_update_loop _]
    show wpAny _ A.in1 (pyNext (.ref I) >>= _) _ _ s
    refine wpAny_bind (W.done s _ _ hst fun s' hm => ?_)
    show wpAny _ A.in1 (ret Value.none) _ _ s'
    exact wpAny_pure (hR s' (hm.mono hsub) (atM (fun o e => hm.heap S o hSw e) hS) (keepM hm hkp))
  | succ k ih =>
    intro i s hs t hk' hi hst hkp hS e hR
    have hlt : i < n := by omega
    refine codeAny_builtin F.entry_set_update_loop ?_
    rw [Around.under_plainId F.plain_set_update_loop _]
    show wpAny _ A.in1 (pyNext (.ref I) >>= _) _ _ s
    refine wpAny_bind (W.item i s _ _ hlt hst fun v s' hP hst' hm => ?_)
    obtain ⟨p, hp, rfl⟩ := hval i v hP
    have hkp' := keepM hm hkp
    have hS' : DlSet s'.heap S hs t := atM (fun o e => hm.heap S o hSw e) hS
    obtain ⟨x1, x2, x3⟩ := hk p (List.mem_of_getElem? hp)
    have hx : NestedIs s'.heap p.2 (.ref p.1) := NestedIs.at (fun a o vs n ha _ => hkp' a o ha) _ _ x1
    obtain ⟨hil, hpe⟩ := List.getElem?_eq_some_iff.mp hp
    rw [List.drop_eq_getElem_cons hil, List.map_cons, hpe] at e
    unfold dlAll at e
    obtain ⟨⟨hs2, t2⟩, e1, e2⟩ := Option.bind_eq_some_iff.mp e
    show wpAny _ A.in1 (holding [Value.ref p.1] (setAdd S (.ref p.1)) >>= _) _ _ s'
    refine wpAny_bind (wpAny_holding ?_)
    unfold setAdd
    refine wpAny_holding ?_
    refine wpAny_bind (pyHash_key _ _ _ _ _ hx (by omega) ?_)
    refine dl_add (s := { s' with toks := s'.toks + p.2.draws }) hS' (hashes_key _ _ 8 { s' with toks := s'.toks + p.2.draws } hx x2 x3) e1 fun b h' hsb hS2 => ?_
    have hkp2 : ∀ b o, h0.get? b = some o → h'.get? b = some o := fun b o e => (hsb.2 b (fun z => by rw [z, hS0] at e; cases e)).trans (hkp' b o e)
    refine wpAny_pure ⟨plainId_quiet F.plain_set_update_loop _, ih (i + 1) _ hs2 t2 (by omega) hlt (W.frame _ s' _ _ hst' (Nat.le_add_right _ _) fun b hb o e => ?_) hkp2 hS2 e2 fun s'' hm'' hS'' hkp'' => ?_⟩
    · rw [hsb.2 b (fun h : b = S => hSf (by rw [← h]; exact hb))]; exact e
    · refine hR s'' (Moved.trans W.gtrans ((hm.mono hsub).then_heap (Nat.le_add_right _ _) fun b o hb e => ?_) hm'') hS'' hkp''
      rw [hsb.2 b (fun h : b = S => hb (by rw [h]; exact List.mem_cons_self))]; exact e
def dlSet0 (w : World) : Obj := { cls := .type "set", dict := none, data := .set #[] 0 (.fresh 0 0 (!w.params.followText "set-order")) }
/-- set(xs) -/
theorem dl_call_set {l : Addr} {items : Array Value} (ks : List (Addr × NestedKey)) {z : Array Int × SetTable} {Q : Value → Shared → Prop} (hh : A.handled = none) (hl : s.heap.IsList l items) (hit : items.toList = ks.map fun p => Value.ref p.1)
    (hk : ∀ p ∈ ks, NestedIs s.heap p.2 (.ref p.1) ∧ p.2.depth ≤ 8 ∧ dlPlain p.2 = true) (hu : A.units + 12 < cLine) (e : dlAll (ks.map fun p => p.2.hash w) (#[], .fresh 0 0 (!w.params.followText "set-order")) = some z)
    (h : ∀ (h' : Heap) (tk : Nat), DlSet h' s.heap.objs.size z.1 z.2 → (∀ b o, s.heap.get? b = some o → h'.get? b = some o) → Q (.ref s.heap.objs.size) { s with heap := h', toks := tk }) :
    wpAny (model P w) A (call (.type "set") [.ref l]) Q E s := by
  have hisz : items.size = ks.length := by
    have q := congrArg List.length hit
    rw [Array.length_toList, List.length_map] at q
    exact q
  obtain ⟨c, tl, hmro⟩ := F.called_set.mro
  have hmade := F.called_set.made
  have hsub := F.called_set.sub
  refine wpAny_call (codeAny_of_tree ?_)
  show wpAny _ _ (callAny (.type "set") _) _ _ _
  refine wpAny_pure ⟨Code.quiet_builtin _ (by decide +kernel), codeAny_builtin F.entry_type_call ?_⟩
  rw [Around.under_plain (weight_type_call_type "set" [.ref l] []) rfl]
  have h1 := F.called_set.notType
  have h2 := F.called_set.canCreate
  have hct := F.typeCall_set_1 (.ref l)
  repeat (any_goals (first | assumption | wp_step))
  refine codeAny_mono (code_set_led1 (.ref l) (E := E) (Q₁ := fun obj s₁ => obj = .ref s.heap.objs.size ∧ s₁ = { s with heap := s.heap.push (dlSet0 w) }) ⟨rfl, rfl⟩) fun r s₁ hr => ?_
  cases r with
  | error e => exact hr
  | ok fl =>
    cases fl with
    | ret obj =>
      obtain ⟨rfl, rfl⟩ := hr
      have hS : (s.heap.push (dlSet0 w)).get? s.heap.objs.size = some (dlSet0 w) := Heap.get?_push_size _ rfl
      have hT : Shared.TypeIs { s with heap := s.heap.push (dlSet0 w) } (.ref s.heap.objs.size) "set" := ⟨_, hS, rfl⟩
      have hli := F.called_set.init.lookup
      have hbi := F.called_set.init.bind (.ref s.heap.objs.size)
      repeat (any_goals (first | assumption | wp_step))
      refine codeAny_mono (codeAny_call_builtin (R := wants (fun r s₂ => r = .none ∧ ∃ h' tk, s₂ = { s with heap := h', toks := tk } ∧ DlSet h' s.heap.objs.size z.1 z.2 ∧ (∀ b o, s.heap.get? b = some o → h'.get? b = some o)) E) F.called_set.init.plain F.entry_set_init (check_set_init_1 hT ?_)) fun r₂ s₂ hr₂ => ?_
      · obtain ⟨ol, hol, hcl, nl, hdl⟩ := hl
        obtain ⟨ocls, odict, odata, oslots⟩ := ol
        simp only at hcl hdl
        subst hcl; subst hdl
        have hol' : (s.heap.push (dlSet0 w)).get? l = some { cls := .type "list", dict := odict, data := .seq items nl, slots := oslots } := Heap.get?_push_of_some _ hol
        have hsls := F.sub_list_set
        have hslf := F.sub_list_frozenset
        have hne : (Value.type "list" == Value.type "dict") = false := by decide
        have hl1 : (s.heap.push (dlSet0 w)).IsList l items := ⟨_, hol', rfl, nl, rfl⟩
        unfold Builtin.«set.__init__» noKeywords Builtin.Frozenset.updateFrom
        generalize hPI : pyIter = PI
        wp_walk
        subst hPI
        refine wpAny_pyIter_list hl1 ?_
        refine wpAny_bind (wpAny_runValue ?_)
        have hlS : l < s.heap.objs.size := Heap.lt_size hol
        have hh3 : A.in1.in1.in1.handled = none := by simp [hh]
        have hneI : l ≠ (s.heap.push (dlSet0 w)).objs.size := by
          rw [Heap.size_push]; exact Nat.ne_of_lt (Nat.lt_succ_of_lt hlS)
        have hSf : s.heap.objs.size ∉ [(s.heap.push (dlSet0 w)).objs.size, l] := by
          rw [Heap.size_push]; simp only [List.mem_cons, List.mem_singleton, List.not_mem_nil, or_false, not_or]
          exact ⟨Nat.ne_of_lt (Nat.lt_succ_self _), Nat.ne_of_gt hlS⟩
        have hval : ∀ (i : Nat) (v : Value), items[i]? = some v → ∃ p, ks[i]? = some p ∧ v = .ref p.1 := fun i v hv => by
          have q : items.toList[i]? = some v := by rw [Array.getElem?_toList]; exact hv
          rw [hit, List.getElem?_map] at q
          cases hq : ks[i]? with
          | none => rw [hq] at q; cases q
          | some p =>
            rw [hq] at q
            exact ⟨p, rfl, (Option.some.inj q).symm⟩
        have none_of : ∀ b, s.heap.objs.size ≤ b → s.heap.get? b = none := fun b hb => by
          cases q : s.heap.get? b with
          | none => rfl
          | some o => exact absurd (Nat.lt_of_lt_of_le (Heap.lt_size q) hb) (Nat.lt_irrefl _)
        refine dl_loop ((Walks.list hh3 _ l hneI items).toS) s.heap.objs.size
          hSf ks hisz hval s.heap hk (none_of _ (Nat.le_refl _)) (fun b hb => none_of b (by
            rw [List.mem_singleton.mp hb, Heap.size_push]
            exact Nat.le_succ _)) (by show A.units + 1 + 1 + 1 + 8 < cLine; omega) (items.size - 0) 0 _ #[] (.fresh 0 0 (!w.params.followText "set-order")) (by omega) (Nat.zero_le _)
          ⟨⟨_, Heap.get?_push_size _ rfl, rfl, rfl⟩, (hl1.push _)⟩ (fun b o e => Heap.get?_push_of_some _ (Heap.get?_push_of_some _ e)) ?hS0 (by simpa using e) ?hR
        case hS0 => exact ⟨dlSet0 w, #[], 0, Heap.get?_push_of_some _ hS, ⟨rfl, rfl, rfl⟩, rfl, by simp⟩
        case hR =>
          intro s' hm hS' hkp
          obtain ⟨h', g2, d', tk', os'⟩ := s'
          have eg : g2 = s.gens := hm.gens
          have ed : d' = s.drawn := hm.drawn
          have eo : os' = s.os := hm.os
          subst eg; subst ed; subst eo
          show wpAny _ _ _ _ _ _
          refine wpAny_pure ?_
          show wpAny _ _ (ret Value.none) _ _ _
          exact wpAny_pure ⟨rfl, h', tk', rfl, hS', hkp⟩
      · cases r₂ with
        | error e => exact hr₂
        | ok fl₂ =>
          cases fl₂ with
          | ret r =>
            obtain ⟨rfl, h', tk, rfl, hS', hk'⟩ := hr₂
            repeat (any_goals (first | assumption | wp_step))
            exact h _ _ hS' hk'
          | _ => exact hr₂.elim
    | _ => exact hr.elim
end
end L2

set_option maxRecDepth 100000
namespace DL
open PySem PySem.Spec PyProof.Rows L2
mutual
def keyOf : D → Option NestedKey
  | .int i => some (.num i)
  | .tup ds => (keysOf ds).bind fun ks => some (.tup ks)
  | _ => none
def keysOf : List D → Option (List NestedKey)
  | [] => some []
  | d :: ds => (keyOf d).bind fun k => (keysOf ds).bind fun ks => some (k :: ks)
end
mutual
def kHash : NestedKey → Int
  | .num i => hashInt i
  | .tup ks => reduceHash (Builtin.Tuple.tupleHashOf (kHashes ks))
  | _ => 0
def kHashes : List NestedKey → List Int
  | [] => []
  | k :: ks => kHash k :: kHashes ks
end
mutual
theorem kHash_eq (w : World) : ∀ k, dlPlain k = true → k.hash w = kHash k
  | .none, h => by simp [dlPlain] at h
  | .text _, h => by simp [dlPlain] at h
  | .num i, _ => by simp [NestedKey.hash, kHash]
  | .tup ks, h => by simp only [NestedKey.hash, kHash]; rw [kHashes_eq w ks (by simpa [dlPlain] using h)]
theorem kHashes_eq (w : World) : ∀ ks, dlPlains ks = true → NestedKey.hashes w ks = kHashes ks
  | [], _ => by simp [NestedKey.hashes, kHashes]
  | k :: ks, h => by
    rw [dlPlains, Bool.and_eq_true] at h
    simp only [NestedKey.hashes, kHashes]
    rw [kHash_eq w k h.1, kHashes_eq w ks h.2]
end
section
variable {G : Gx} {X : Cx} {M : Addr → Prop} {H : Hp} {pins : List (Addr × Obj)} {σ : L2.St} {s : Shared}
mutual
theorem keyOf_is (I : Inv X pins σ H s) : ∀ (d : D) (v : V) (u : Value) (k : NestedKey), Rep G M H v d → RelV v u → keyOf d = some k → NestedIs s.heap k u ∧ dlPlain k = true
  | .int i, _, _, _, h, r, e => by
    cases h
    simp only [keyOf] at e
    cases e
    obtain ⟨t, rfl⟩ := r
    exact ⟨.int i t, by simp [dlPlain]⟩
  | .tup ds, _, _, _, h, r, e => by
    cases h with
    | tup h1 h2 h0 h3 =>
      simp only [keyOf] at e
      obtain ⟨ks, e1, e⟩ := Option.bind_eq_some_iff.mp e
      cases e
      cases r
      obtain ⟨its, rv, ⟨o, ho, hc, n, hd⟩, hz⟩ := I.tuple (.inl (.inr ⟨_, h2⟩))
      obtain ⟨k1, k2⟩ := keysOf_is I ds _ its ks h3 rv e1
      exact ⟨.tup ho hc hd (by simpa using k1), by simpa [dlPlain] using k2⟩
  | .non, _, _, _, _, _, e => by simp [keyOf] at e
  | .bl _, _, _, _, _, _, e => by simp [keyOf] at e
  | .str _, _, _, _, _, _, e => by simp [keyOf] at e
  | .lst _, _, _, _, _, _, e => by simp [keyOf] at e
  | .obj _ _, _, _, _, _, _, e => by simp [keyOf] at e
  | .dct _, _, _, _, _, _, e => by simp [keyOf] at e
  | .iset _, _, _, _, _, _, e => by simp [keyOf] at e
  | .frz _, _, _, _, _, _, e => by simp [keyOf] at e
theorem keysOf_is (I : Inv X pins σ H s) : ∀ (ds : List D) (vs : List V) (us : List Value) (ks : List NestedKey), RepL G M H vs ds → Vals vs us → keysOf ds = some ks → NestedAll s.heap ks us ∧ dlPlains ks = true
  | [], _, _, _, h, r, e => by
    cases h
    cases r
    simp only [keysOf] at e
    cases e
    exact ⟨.nil, by simp [dlPlains]⟩
  | d :: ds, _, _, _, h, r, e => by
    cases h with
    | cons h1 h2 =>
      cases r with
      | cons r1 r2 =>
        simp only [keysOf] at e
        obtain ⟨k, e1, e⟩ := Option.bind_eq_some_iff.mp e
        obtain ⟨ks, e2, e⟩ := Option.bind_eq_some_iff.mp e
        cases e
        obtain ⟨a1, a2⟩ := keyOf_is I d _ _ k h1 r1 e1
        obtain ⟨b1, b2⟩ := keysOf_is I ds _ _ ks h2 r2 e2
        exact ⟨.cons a1 b1, by simp [dlPlains, a2, b2]⟩
end
/-- tuples alone -/
def tupsOf : List D → Option (List NestedKey)
  | [] => some []
  | .tup ds :: r => (keyOf (.tup ds)).bind fun k => (tupsOf r).bind fun ks => if k.depth ≤ 8 then some (k :: ks) else none
  | _ => none
theorem tupsOf_is (I : Inv X pins σ H s) : ∀ (ds : List D) (vs : List V) (us : List Value) (ks : List NestedKey), RepL G M H vs ds → Vals vs us → tupsOf ds = some ks →
    ∃ ps : List (Addr × NestedKey), us = ps.map (fun p => Value.ref p.1) ∧ ps.map (·.2) = ks ∧ ∀ p ∈ ps, NestedIs s.heap p.2 (.ref p.1) ∧ p.2.depth ≤ 8 ∧ dlPlain p.2 = true
  | [], _, _, _, h, r, e => by
    cases h
    cases r
    simp only [tupsOf] at e
    cases e
    exact ⟨[], rfl, rfl, fun p hp => by simp at hp⟩
  | .tup d :: ds, _, _, _, h, r, e => by
    cases h with
    | cons h1 h2 =>
      cases r with
      | cons r1 r2 =>
        simp only [tupsOf] at e
        obtain ⟨k, e1, e⟩ := Option.bind_eq_some_iff.mp e
        obtain ⟨ks, e2, e⟩ := Option.bind_eq_some_iff.mp e
        split at e
        · rename_i hd
          cases e
          obtain ⟨a1, a2⟩ := keyOf_is I (.tup d) _ _ k h1 r1 e1
          obtain ⟨ps, b1, b2, b3⟩ := tupsOf_is I ds _ _ ks h2 r2 e2
          cases h1 with
          | tup q1 q2 q0 q3 =>
            cases r1
            refine ⟨(_, k) :: ps, by rw [List.map_cons, ← b1], by rw [List.map_cons, b2], fun p hp => ?_⟩
            rcases List.mem_cons.mp hp with rfl | hp
            · exact ⟨a1, hd, a2⟩
            · exact b3 p hp
        · cases e
  | .non :: _, _, _, _, _, _, e => by simp [tupsOf] at e
  | .int _ :: _, _, _, _, _, _, e => by simp [tupsOf] at e
  | .bl _ :: _, _, _, _, _, _, e => by simp [tupsOf] at e
  | .str _ :: _, _, _, _, _, _, e => by simp [tupsOf] at e
  | .lst _ :: _, _, _, _, _, _, e => by simp [tupsOf] at e
  | .obj _ _ :: _, _, _, _, _, _, e => by simp [tupsOf] at e
  | .dct _ :: _, _, _, _, _, _, e => by simp [tupsOf] at e
  | .iset _ :: _, _, _, _, _, _, e => by simp [tupsOf] at e
  | .frz _ :: _, _, _, _, _, _, e => by simp [tupsOf] at e
end
/-- how many entries the table has behind it -/
def dlCount (hs : List Int) : Option Nat := match dlAll hs (#[], .fresh 0 0 true), dlAll hs (#[], .fresh 0 0 false) with
  | some a, some b => if a.1.size == b.1.size && a.2.fits a.1.size && b.2.fits b.1.size && decide (a.1.size < 4096) then some a.1.size else none
  | _, _ => none
theorem dlCount_at {hs : List Int} {n : Nat} (h : dlCount hs = some n) (led : Bool) : ∃ z, dlAll hs (#[], .fresh 0 0 led) = some z ∧ z.1.size = n ∧ z.2.fits z.1.size = true ∧ n < 4096 := by
  unfold dlCount at h
  split at h
  · rename_i a b ha hb
    split at h
    · rename_i hc
      simp only [Bool.and_eq_true, beq_iff_eq, decide_eq_true_eq] at hc
      obtain ⟨⟨⟨h1, h2⟩, h3⟩, h4⟩ := hc
      cases h
      cases led with
      | true => exact ⟨a, ha, rfl, h2, h4⟩
      | false => exact ⟨b, hb, h1.symm, h3, h4⟩
    · cases h
  · cases h
def tLenSetD (X : Cx) (ta : TE) : TE := fun σ H Q => ta σ H fun x H1 => ∃ (l : Addr) (xs : List V) (ks : List NestedKey) (n : Nat), x = V.ref l ∧ SqL X.K H1 l xs ∧
  (∀ (pins : List (Addr × Obj)) (s : Shared) (us : List Value), Inv X pins σ H1 s → Vals xs us → ∃ ps : List (Addr × NestedKey), us = ps.map (fun p => Value.ref p.1) ∧ ps.map (·.2) = ks ∧ ∀ p ∈ ps, NestedIs s.heap p.2 (.ref p.1) ∧ p.2.depth ≤ 8 ∧ dlPlain p.2 = true) ∧
  dlCount (ks.map kHash) = some n ∧ Q (.int n) H1
section
variable {G : Gx} {X : Cx} {a : Expr} {p p2 q pos : Pos} {f : FE}
theorem pe_lenSetD {ta : TE} (hu : X.A.units + 65 < cLine) (hc : X.calm = true) (hg : Gl X "len") (hm : X.mg "len" = none) (hg2 : Gl X "set") (hm2 : X.mg "set" = none) (ha : PE X a ta)
    (na : starEach [a] X.env = (false, eval a X.env) :: starEach [] X.env) : PE X (.Call (.Name "len" p) [.Call (.Name "set" p2) [a] [] q] [] pos) (tLenSetD X ta) := by
  refine ⟨fun pins s σ H Q I h => ?_⟩
  refine Call_ (ld_blt I hg hm PySem.boot_len ?_)
  refine PyProof.Rows.callWith_builtin1 (PyProof.Rows.args_cons ?_ rfl) rfl rfl
  refine Call_ (ld_blt I hg2 hm2 PyProof.Rows.boot_set ?_)
  refine PyProof.Rows.callWith_type1 (PyProof.Rows.args_cons (thn (ha.run pins s σ H _ I h) fun v s1 ⟨x, H1, I1, r1, q1⟩ => PyProof.Rows.args_nil ?_) na) na rfl
  obtain ⟨l, xs, ks, n, rfl, hq, hk, hn, q1⟩ := q1
  cases r1
  obtain ⟨its, r, pl, hz⟩ := I1.list hq
  obtain ⟨ps, e1, e2, e3⟩ := hk pins s1 its I1 r
  have hm : ps.map (fun p => p.2.hash X.w) = ks.map kHash := by
    rw [← e2, List.map_map]
    exact List.map_congr_left fun p hp => kHash_eq X.w p.2 (e3 p hp).2.2
  obtain ⟨z, z1, z2, z3, z4⟩ := dlCount_at hn (!X.w.params.followText "set-order")
  refine dl_call_set ps (z := z) (I1.ok.hd hc) pl.isList (by simpa using e1) e3 (by omega) (by rw [hm]; exact z1) fun h' tk hS hk => ?_
  refine PyProof.Rows.args_nil ?_
  obtain ⟨o, es, ep, ho, hex, hd, hes⟩ := hS
  have hsz : es.size = z.1.size := by rw [← hes, Array.size_map]
  have I2 : Inv X pins σ H1 { s1 with heap := h', toks := tk } := I1.kept hk
  refine call_len_set ho hex hd (by rw [hsz]; exact z3) (by omega) ⟨.int n, H1, I2.tok _, ⟨_, by rw [hsz, z2]⟩, q1⟩
def xLenSetK (f : FE) : FE := fun ρ => (f ρ).bind fun z => (z.1.rd z.2).bind fun d => match d with
  | .lst xs => (tupsOf xs).bind fun ks => (dlCount (ks.map kHash)).bind fun n => some (.val (.int n), z.2)
  | _ => none
theorem e_lenSetK (M : NoG X.mg) (hu : X.A.units + 65 < cLine) (ha : DE G X a f) (hc : X.calm = true := by rfl) (hg : Gl X "len" := by rfl) (hg2 : Gl X "set" := by rfl)
    (na : starEach [a] X.env = (false, eval a X.env) :: starEach [] X.env := by rfl) : DE G X (.Call (.Name "len" p) [.Call (.Name "set" p2) [a] [] q] [] pos) (xLenSetK f) := by
  obtain ⟨t, pt, qt⟩ := ha.ex
  refine ⟨_, pe_lenSetD hu hc hg M.len hg2 M.set pt na, fun N σ H ρ r ρ' Q I e kk => ?_⟩
  obtain ⟨z, e1, e⟩ := Option.bind_eq_some_iff.mp e
  obtain ⟨d, e2, e⟩ := Option.bind_eq_some_iff.mp e
  split at e
  · rename_i xs
    obtain ⟨ks, e3, e⟩ := Option.bind_eq_some_iff.mp e
    obtain ⟨n, e4, e⟩ := Option.bind_eq_some_iff.mp e
    cases e
    refine qt N σ H ρ z.1 z.2 _ I e1 fun v H1 g1 r1 => ?_
    obtain ⟨b, vs, rfl, h1, h2⟩ := (r1.repT g1.env e2).lst
    exact ⟨b, vs, ks, n, rfl, .of h1, fun pins s us J rv => tupsOf_is J _ _ _ _ h2 rv e3, e4, kk _ H1 g1 (.int _)⟩
  · cases e
end
end DL

set_option maxRecDepth 100000
namespace DL
open PySem PySem.Spec PyProof.Rows L2
/-! ### the law's own head -/
def gx (K : PySem.W.Frag) : Gx := ⟨K, fun _ => 0⟩
/-- the law's promise: for every script of at most so many ints the mirror says True -/
def LawTrue (m : FD) (n : Nat) : Prop := ∀ ns : List Int, ns.length ≤ n → ∃ ρ', m [.imm (.frz (ns.map .int))] = some (.bl true, ρ')
theorem law_sp {K : PySem.W.Frag} {m : FD} {n : Nat} (h : LawTrue m n) {H : Hp} {a : Addr} {ns : List Int} (hl : ns.length ≤ n) (ho : Only H) (hs : SqL K H a (ns.map V.int)) (E : XK) : spD (gx K) false m [.ref a] H (fun v _ => v = .bl true) E := by
  obtain ⟨ρ', e⟩ := h ns hl
  refine ⟨fun _ => False, [.imm (.frz (ns.map .int))], .bl true, ρ', ?_, rfl, e, fun v H' g r => ?_⟩
  · refine ⟨rfl, fun _ z => z.elim, fun i d h => ?_, fun i b d h => ?_, fun i j b b' d d' a h => ?_⟩
    · cases i with
      | zero =>
        cases h
        refine ⟨.ref a, rfl, ?_⟩
        have nM : ¬ MM (fun _ => False) [some (V.ref a)] [.imm (.frz (ns.map .int))] a := fun z => by
          rcases z with z | ⟨j, b, d, e1, _⟩
          · exact z
          · cases j with
            | zero => cases e1
            | succ j => simp at e1
        rcases hs with (hs | ⟨o, hs⟩) | hs
        · rcases ho a with z | ⟨o, xs, z⟩
          · rw [hs] at z; cases z
          · rw [hs] at z; cases z
        · exact .frz nM hs RepL.ints
        · exact .kon hs RepL.ints
      | succ i => simp at h
    · cases i with
      | zero => cases h
      | succ i => simp at h
    · cases i with
      | zero => cases h
      | succ i => simp at h
  · cases (show Rep (gx K) _ H' v (.bl true) from r)
    rfl
theorem Df.mk' {K : PySem.W.Frag} {mg : Str → Option Value} {x : Str} {st : Stmt} {ps : List Str} {f : Addr} {fd : FuncData} (F : Fun K x x st f fd) (m : mg x = some (.ref f)) (b : Binds K fd ps []) : Df K mg x st ps := ⟨f, fd, F, m, b⟩
end DL

set_option maxRecDepth 100000
namespace DL
open PySem PySem.Spec PyProof.Rows L2
/-! ### typed readings of the mirrors -/
def nD (n : Nat) : D := .int n
def pD (p : Nat × Nat) : D := .tup [.int p.1, .int p.2]
theorem atI_nat' {α : Type} (xs : List α) (i : Nat) : atI xs (i : Int) = xs[i]? := by
  unfold atI ixN
  rw [if_pos (by omega)]
  by_cases h : i < xs.length
  · rw [if_pos (by omega)]; simp
  · rw [if_neg (by omega), List.getElem?_eq_none (by omega)]; rfl
theorem ixN_nat {n i : Nat} (h : i < n) : ixN n (i : Int) = some i := by
  unfold ixN
  rw [if_pos (by omega), if_pos (by omega)]; simp
theorem rgD_nat (n : Nat) : rgD 0 n = (List.range n).map nD := by
  unfold rgD nD
  simp
/-- a turn of a for loop that goes on -/
def turnF (tmp : List Nat) (g : FG) (bd : FS) (d : D) (ρ : Ev) : Option Ev := (g d ρ).bind fun ρ1 => (bd ρ1).bind fun o => match o with
  | .nx ρ2 => some (wps tmp ρ2)
  | .ct ρ2 => some (wps tmp ρ2)
  | _ => none
theorem forL_fold {α σ : Type} {tmp : List Nat} {g : FG} {bd : FS} {all : List D} (enc : α → D) (R : σ → Ev) (stp : σ → α → σ) (P : Nat → σ → Prop) : ∀ (xs : List α) (s0 : σ), P xs.length s0 →
    (∀ k x s, x ∈ xs → P (k + 1) s → P k (stp s x) ∧ turnF tmp g bd (enc x) (R s) = some (R (stp s x))) →
    forL tmp none all g bd (xs.map enc) (R s0) = some (.nx (R (xs.foldl stp s0))) ∧ P 0 (xs.foldl stp s0)
  | [], s0, h0, _ => ⟨rfl, h0⟩
  | x :: xs, s0, h0, h => by
    obtain ⟨h1, e⟩ := h xs.length x s0 List.mem_cons_self h0
    unfold turnF at e
    obtain ⟨ρ1, e1, e⟩ := Option.bind_eq_some_iff.mp e
    obtain ⟨o, e2, e⟩ := Option.bind_eq_some_iff.mp e
    have st : ∀ ρ, stable none all ρ = true := fun _ => rfl
    obtain ⟨ih, ip⟩ := forL_fold (tmp := tmp) (g := g) (bd := bd) (all := all) enc R stp P xs (stp s0 x) h1 fun k y s hy => h k y s (List.mem_cons_of_mem _ hy)
    refine ⟨?_, ip⟩
    show (g (enc x) (R s0)).bind _ = _
    rw [e1]
    show (bd ρ1).bind _ = _
    rw [e2]
    cases o with
    | nx ρ2 =>
      have e : wps tmp ρ2 = R (stp s0 x) := Option.some.inj e
      show (if stable none all (wps tmp ρ2) then forL tmp none all g bd (xs.map enc) (wps tmp ρ2) else none) = _
      rw [if_pos (st _), e]
      exact ih
    | ct ρ2 =>
      have e : wps tmp ρ2 = R (stp s0 x) := Option.some.inj e
      show (if stable none all (wps tmp ρ2) then forL tmp none all g bd (xs.map enc) (wps tmp ρ2) else none) = _
      rw [if_pos (st _), e]
      exact ih
    | bk _ => cases e
    | rt _ _ _ => cases e
theorem sFor_run {α σ : Type} {tmp : List Nat} {fi : FI} {g : FG} {bd : FS} (enc : α → D) (R : σ → Ev) (stp : σ → α → σ) (P : Nat → σ → Prop) (xs : List α) (s0 : σ) (hfi : fi (R s0) = some ((xs.map enc, none), R s0)) (h0 : P xs.length s0)
    (h : ∀ k x s, x ∈ xs → P (k + 1) s → P k (stp s x) ∧ turnF tmp g bd (enc x) (R s) = some (R (stp s x))) :
    sFor tmp fi g bd (R s0) = some (.nx (R (xs.foldl stp s0))) ∧ P 0 (xs.foldl stp s0) := by
  obtain ⟨h1, h2⟩ := forL_fold (tmp := tmp) (g := g) (bd := bd) (all := xs.map enc) enc R stp P xs s0 h0 h
  refine ⟨?_, h2⟩
  unfold sFor
  rw [hfi]
  exact h1
/-- .. P sees what is still to come -/
theorem forL_foldL {α σ : Type} {tmp : List Nat} {g : FG} {bd : FS} {all : List D} (enc : α → D) (R : σ → Ev) (stp : σ → α → σ) (P : List α → σ → Prop) (h : ∀ x xs s, P (x :: xs) s → P xs (stp s x) ∧ turnF tmp g bd (enc x) (R s) = some (R (stp s x))) : ∀ (xs : List α) (s0 : σ), P xs s0 →
    forL tmp none all g bd (xs.map enc) (R s0) = some (.nx (R (xs.foldl stp s0))) ∧ P [] (xs.foldl stp s0)
  | [], s0, h0 => ⟨rfl, h0⟩
  | x :: xs, s0, h0 => by
    obtain ⟨h1, e⟩ := h x xs s0 h0
    unfold turnF at e
    obtain ⟨ρ1, e1, e⟩ := Option.bind_eq_some_iff.mp e
    obtain ⟨o, e2, e⟩ := Option.bind_eq_some_iff.mp e
    have st : ∀ ρ, stable none all ρ = true := fun _ => rfl
    obtain ⟨ih, ip⟩ := forL_foldL (tmp := tmp) (g := g) (bd := bd) (all := all) enc R stp P h xs (stp s0 x) h1
    refine ⟨?_, ip⟩
    show (g (enc x) (R s0)).bind _ = _
    rw [e1]
    show (bd ρ1).bind _ = _
    rw [e2]
    cases o with
    | nx ρ2 =>
      have e : wps tmp ρ2 = R (stp s0 x) := Option.some.inj e
      show (if stable none all (wps tmp ρ2) then forL tmp none all g bd (xs.map enc) (wps tmp ρ2) else none) = _
      rw [if_pos (st _), e]
      exact ih
    | ct ρ2 =>
      have e : wps tmp ρ2 = R (stp s0 x) := Option.some.inj e
      show (if stable none all (wps tmp ρ2) then forL tmp none all g bd (xs.map enc) (wps tmp ρ2) else none) = _
      rw [if_pos (st _), e]
      exact ih
    | bk _ => cases e
    | rt _ _ _ => cases e
theorem sFor_runL {α σ : Type} {tmp : List Nat} {fi : FI} {g : FG} {bd : FS} (enc : α → D) (R : σ → Ev) (stp : σ → α → σ) (P : List α → σ → Prop) (xs : List α) (s0 : σ) (hfi : fi (R s0) = some ((xs.map enc, none), R s0)) (h0 : P xs s0)
    (h : ∀ x xs s, P (x :: xs) s → P xs (stp s x) ∧ turnF tmp g bd (enc x) (R s) = some (R (stp s x))) :
    sFor tmp fi g bd (R s0) = some (.nx (R (xs.foldl stp s0))) ∧ P [] (xs.foldl stp s0) := by
  obtain ⟨h1, h2⟩ := forL_foldL (tmp := tmp) (g := g) (bd := bd) (all := xs.map enc) enc R stp P h xs s0 h0
  refine ⟨?_, h2⟩
  unfold sFor
  rw [hfi]
  exact h1
/-- a turn of a comprehension -/
def turnC (vs : List Nat) (g : FG) (k : FT) (f : FE) (d : D) (ρ : Ev) : Option (Option D × Ev) := (g d ρ).bind fun ρ1 => (k ρ1).bind fun z => match z.1 with
  | false => some (none, wipeE z.2 vs)
  | true => (f z.2).bind fun y => match y.1 with
    | .val e => some (some e, wipeE y.2 vs)
    | .own _ => none
/-- a comprehension over a state s: what is handed on, what is changed -/
def lcFold {α σ : Type} (o : σ → α → Option D) (stp : σ → α → σ) : σ → List α → List D
  | _, [] => []
  | s, x :: xs => (o s x).toList ++ lcFold o stp (stp s x) xs
theorem lcFold_len {α σ : Type} (o : σ → α → Option D) (stp : σ → α → σ) : ∀ (xs : List α) (s : σ), (lcFold o stp s xs).length ≤ xs.length
  | [], _ => Nat.le_refl _
  | x :: xs, s => by
    have := lcFold_len o stp xs (stp s x)
    unfold lcFold
    rw [List.length_append, List.length_cons]
    cases o s x <;> simp <;> omega
theorem lcL_fold {α σ : Type} {st : Option Nat} {vs : List Nat} {all : List D} {g : FG} {k : FT} {f : FE} (enc : α → D) (R : σ → Ev) (o : σ → α → Option D) (stp : σ → α → σ) (P : σ → Prop) (hst : ∀ s, P s → lcL.stableL st all (R s) = true) : ∀ (xs : List α) (s0 : σ) (acc : List D), acc.length + xs.length ≤ sizeLine → P s0 →
    (∀ x ∈ xs, ∀ s, P s → P (stp s x) ∧ turnC vs g k f (enc x) (R s) = some (o s x, R (stp s x))) →
    lcL vs st all g k f (xs.map enc) (R s0) acc = some (acc ++ lcFold o stp s0 xs, R (xs.foldl stp s0))
  | [], s0, acc, _, _, _ => by simp [lcL, lcFold]
  | x :: xs, s0, acc, hl, h0, h => by
    obtain ⟨h1, e⟩ := h x List.mem_cons_self s0 h0
    rw [List.length_cons] at hl
    unfold turnC at e
    obtain ⟨ρ1, e1, e⟩ := Option.bind_eq_some_iff.mp e
    obtain ⟨⟨b, ρ2⟩, e2, e⟩ := Option.bind_eq_some_iff.mp e
    have ih := lcL_fold (st := st) (vs := vs) (all := all) (g := g) (k := k) (f := f) enc R o stp P hst xs (stp s0 x)
    show (g (enc x) (R s0)).bind _ = _
    rw [e1]
    show (k ρ1).bind _ = _
    rw [e2]
    cases b with
    | false =>
      dsimp only at e
      obtain ⟨e3, e4⟩ := Prod.mk.inj (Option.some.inj e)
      show (if lcL.stableL st all (wipeE ρ2 vs) then lcL vs st all g k f (xs.map enc) (wipeE ρ2 vs) acc else none) = _
      rw [e4, if_pos (hst _ h1), ih acc (by omega) h1 fun y hy => h y (List.mem_cons_of_mem _ hy)]
      simp [lcFold, ← e3]
    | true =>
      dsimp only at e
      obtain ⟨⟨r, ρ3⟩, e5, e⟩ := Option.bind_eq_some_iff.mp e
      show (f ρ2).bind _ = _
      rw [e5]
      cases r with
      | own i => cases e
      | val d =>
        dsimp only at e
        obtain ⟨e3, e4⟩ := Prod.mk.inj (Option.some.inj e)
        show (if Grd (acc.length < sizeLine ∧ lcL.stableL st all (wipeE ρ3 vs) = true) then lcL vs st all g k f (xs.map enc) (wipeE ρ3 vs) (acc ++ [d]) else none) = _
        rw [e4, if_pos (show Grd (acc.length < sizeLine ∧ lcL.stableL st all (R (stp s0 x)) = true) from ⟨by omega, hst _ h1⟩), ih (acc ++ [d]) (by rw [List.length_append, List.length_singleton]; omega) h1 fun y hy => h y (List.mem_cons_of_mem _ hy)]
        simp [lcFold, ← e3]
/-- .. that changes nothing -/
theorem lcFold_map {α : Type} (o : α → Option D) : ∀ xs : List α, lcFold (σ := Unit) (fun _ => o) (fun _ _ => ()) () xs = xs.filterMap o
  | [] => rfl
  | x :: xs => by
    unfold lcFold
    rw [lcFold_map o xs, List.filterMap_cons]
    cases o x <;> rfl
theorem lcL_map {α : Type} {st : Option Nat} {vs : List Nat} {all : List D} {g : FG} {k : FT} {f : FE} (enc : α → D) (ρ : Ev) (o : α → Option D) (xs : List α) (hst : lcL.stableL st all ρ = true) (hl : xs.length ≤ sizeLine) (h : ∀ x ∈ xs, turnC vs g k f (enc x) ρ = some (o x, ρ)) :
    lcL vs st all g k f (xs.map enc) ρ [] = some (xs.filterMap o, ρ) := by
  have := lcL_fold (st := st) (vs := vs) (all := all) (g := g) (k := k) (f := f) (σ := Unit) enc (fun _ => ρ) (fun _ => o) (fun _ _ => ()) (fun _ => True) (fun _ _ => hst) xs () [] (by simpa using hl) trivial fun x hx s _ => ⟨trivial, h x hx⟩
  rw [this, lcFold_map]
  rfl
theorem ext_of {ρ ρ' : Ev} (hl : ρ.length = ρ'.length) (h : ∀ j, j < ρ.length → ρ[j]? = ρ'[j]?) : ρ = ρ' := by
  apply List.ext_getElem?
  intro j
  by_cases hj : j < ρ.length
  · exact h j hj
  · rw [List.getElem?_eq_none (by omega), List.getElem?_eq_none (by omega)]
theorem rst_wipe {ρ : Ev} {vs : List Nat} (no : noOwn ρ vs = true) : rst ρ (wipeE ρ vs) vs = ρ := by
  refine ext_of (by rw [rst_len, wipeE_len]) fun j hj => ?_
  rw [rst_len, wipeE_len] at hj
  by_cases hm : j ∈ vs
  · rw [rst_in hm (by rw [wipeE_len]; exact hj), List.getD_eq_getElem?_getD, List.getElem?_eq_getElem hj]
    rfl
  · rw [rst_out hm, wipeE_out hm]
theorem xLc_run {α : Type} {fi : FI} {vs : List Nat} {g : FG} {k : FT} {f : FE} {ρ : Ev} (enc : α → D) (o : α → Option D) (xs : List α) (hfi : fi ρ = some ((xs.map enc, none), ρ)) (no : noOwn ρ vs = true) (hl : xs.length ≤ sizeLine)
    (h : ∀ x ∈ xs, turnC vs g k f (enc x) (wipeE ρ vs) = some (o x, wipeE ρ vs)) : xLc fi vs g k f ρ = some (.lst (xs.filterMap o), ρ) := by
  unfold xLc
  rw [hfi]
  show (if noOwn ρ vs then _ else none) = _
  rw [if_pos no]
  show (lcL vs none (xs.map enc) g k f (xs.map enc) (wipeE ρ vs) []).bind _ = _
  rw [lcL_map enc _ o xs rfl hl h]
  show some (D.lst (xs.filterMap o), rst ρ (wipeE ρ vs) vs) = _
  rw [rst_wipe no]
theorem stableL_own {i0 : Nat} {its : List D} {ρ : Ev} {b : Bool} (hi : ρ[i0]? = some (.ow b (.lst its))) : lcL.stableL (some i0) its ρ = true := by
  have h : ∃ b, ρ[i0]? = some (Slot.ow b (.lst its)) := ⟨b, hi⟩
  simp only [lcL.stableL]
  exact @decide_eq_true _ (_) h
/-- .. over an own list that nobody changes -/
theorem xLc_runO {α : Type} {fi : FI} {vs : List Nat} {g : FG} {k : FT} {f : FE} {ρ : Ev} (i0 : Nat) (b : Bool) (enc : α → D) (o : α → Option D) (xs : List α) (hfi : fi ρ = some ((xs.map enc, some i0), ρ)) (no : noOwn ρ vs = true) (hi : (wipeE ρ vs)[i0]? = some (.ow b (.lst (xs.map enc)))) (hl : xs.length ≤ sizeLine)
    (h : ∀ x ∈ xs, turnC vs g k f (enc x) (wipeE ρ vs) = some (o x, wipeE ρ vs)) : xLc fi vs g k f ρ = some (.lst (xs.filterMap o), ρ) := by
  unfold xLc
  rw [hfi]
  show (if noOwn ρ vs then _ else none) = _
  rw [if_pos no]
  show (lcL vs (some i0) (xs.map enc) g k f (xs.map enc) (wipeE ρ vs) []).bind _ = _
  rw [lcL_map enc _ o xs (stableL_own hi) hl h]
  show some (D.lst (xs.filterMap o), rst ρ (wipeE ρ vs) vs) = _
  rw [rst_wipe no]
/-- a turn of a comprehension of two clauses -/
noncomputable def turnC2 (vs vs1 : List Nat) (g : FG) (k : FT) (fi1 : FV) (g1 : FG) (k1 : FT) (f : FE) (d : D) (ρ : Ev) (acc : List D) : Option (List D × Ev) := (g d ρ).bind fun ρ1 => (k ρ1).bind fun z => match z.1 with
  | false => some (acc, wipeE z.2 vs)
  | true => (fi1 z.2).bind fun y => if noOwn y.2 vs1 then (lcL vs1 none y.1 g1 k1 f y.1 (wipeE y.2 vs1) acc).bind fun w => some (w.1, wipeE w.2 vs) else none
theorem lc2L_map {α : Type} {st : Option Nat} {vs vs1 : List Nat} {all : List D} {g g1 : FG} {k k1 : FT} {fi1 : FV} {f : FE} (enc : α → D) (ρ : Ev) (o : α → List D) (hst : lcL.stableL st all ρ = true) : ∀ (xs : List α) (acc : List D), acc.length + (xs.flatMap o).length ≤ sizeLine →
    (∀ x ∈ xs, ∀ acc : List D, acc.length + (o x).length ≤ sizeLine → turnC2 vs vs1 g k fi1 g1 k1 f (enc x) ρ acc = some (acc ++ o x, ρ)) → lc2L vs vs1 st all g k fi1 g1 k1 f (xs.map enc) ρ acc = some (acc ++ xs.flatMap o, ρ)
  | [], acc, _, _ => by simp [lc2L]
  | x :: xs, acc, hl, h => by
    rw [List.flatMap_cons, List.length_append] at hl
    have e := h x List.mem_cons_self acc (by omega)
    have ih := lc2L_map (st := st) (vs := vs) (vs1 := vs1) (all := all) (g := g) (g1 := g1) (k := k) (k1 := k1) (fi1 := fi1) (f := f) enc ρ o hst xs (acc ++ o x) (by rw [List.length_append]; omega) fun y hy => h y (List.mem_cons_of_mem _ hy)
    unfold turnC2 at e
    obtain ⟨ρ1, e1, e⟩ := Option.bind_eq_some_iff.mp e
    obtain ⟨⟨b, ρ2⟩, e2, e⟩ := Option.bind_eq_some_iff.mp e
    show (g (enc x) ρ).bind _ = _
    rw [e1]
    show (k ρ1).bind _ = _
    rw [e2]
    cases b with
    | false =>
      dsimp only at e
      obtain ⟨e3, e4⟩ := Prod.mk.inj (Option.some.inj e)
      show (if lcL.stableL st all (wipeE ρ2 vs) then lc2L vs vs1 st all g k fi1 g1 k1 f (xs.map enc) (wipeE ρ2 vs) acc else none) = _
      rw [e4, if_pos hst, List.flatMap_cons, ← List.append_assoc, ← ih, ← e3]
    | true =>
      dsimp only at e
      obtain ⟨⟨its1, ρ3⟩, e5, e⟩ := Option.bind_eq_some_iff.mp e
      show (fi1 ρ2).bind _ = _
      rw [e5]
      dsimp only at e
      split at e
      · rename_i no
        obtain ⟨⟨w1, w2⟩, e6, e⟩ := Option.bind_eq_some_iff.mp e
        dsimp only at e
        obtain ⟨e3, e4⟩ := Prod.mk.inj (Option.some.inj e)
        show (if noOwn ρ3 vs1 then (lcL vs1 none its1 g1 k1 f its1 (wipeE ρ3 vs1) acc).bind _ else none) = _
        rw [if_pos no, e6]
        show (if lcL.stableL st all (wipeE w2 vs) then lc2L vs vs1 st all g k fi1 g1 k1 f (xs.map enc) (wipeE w2 vs) w1 else none) = _
        rw [e4, if_pos hst, List.flatMap_cons, ← List.append_assoc, ← ih, e3]
      · cases e
theorem xLc2_run {α : Type} {st : Option Nat} {fi : FI} {vs vs1 : List Nat} {g g1 : FG} {k k1 : FT} {fi1 : FV} {f : FE} {ρ : Ev} (enc : α → D) (o : α → List D) (xs : List α) (hfi : fi ρ = some ((xs.map enc, st), ρ)) (no : noOwn ρ vs = true) (hst : lcL.stableL st (xs.map enc) (wipeE ρ vs) = true) (hl : (xs.flatMap o).length ≤ sizeLine)
    (h : ∀ x ∈ xs, ∀ acc : List D, acc.length + (o x).length ≤ sizeLine → turnC2 vs vs1 g k fi1 g1 k1 f (enc x) (wipeE ρ vs) acc = some (acc ++ o x, wipeE ρ vs)) : xLc2 fi vs g k fi1 vs1 g1 k1 f ρ = some (.lst (xs.flatMap o), ρ) := by
  unfold xLc2
  rw [hfi]
  show (if noOwn ρ vs then _ else none) = _
  rw [if_pos no]
  show (lc2L vs vs1 st (xs.map enc) g k fi1 g1 k1 f (xs.map enc) (wipeE ρ vs) []).bind _ = _
  rw [lc2L_map enc _ o hst xs [] (by simpa using hl) h]
  show some (D.lst ([] ++ xs.flatMap o), rst ρ (wipeE ρ vs) vs) = _
  rw [rst_wipe no, List.nil_append]
theorem xLc_fold {α σ : Type} {fi : FI} {vs : List Nat} {g : FG} {k : FT} {f : FE} (enc : α → D) (R : σ → Ev) (o : σ → α → Option D) (stp : σ → α → σ) (P : σ → Prop) (xs : List α) (s0 : σ) (hfi : fi (R s0) = some ((xs.map enc, none), R s0)) (no : noOwn (R s0) vs = true) (hl : xs.length ≤ sizeLine) (hw : ∀ s, wipeE (R s) vs = R s)
    (hr : ∀ s s', rst (R s) (R s') vs = R s') (h0 : P s0) (h : ∀ x ∈ xs, ∀ s, P s → P (stp s x) ∧ turnC vs g k f (enc x) (R s) = some (o s x, R (stp s x))) :
    xLc fi vs g k f (R s0) = some (.lst (lcFold o stp s0 xs), R (xs.foldl stp s0)) := by
  unfold xLc
  rw [hfi]
  show (if noOwn (R s0) vs then _ else none) = _
  rw [if_pos no]
  show (lcL vs none (xs.map enc) g k f (xs.map enc) (wipeE (R s0) vs) []).bind _ = _
  rw [hw, lcL_fold enc R o stp P (fun _ _ => rfl) xs s0 [] (by simpa using hl) h0 h]
  show some (D.lst ([] ++ lcFold o stp s0 xs), rst (R s0) (R (xs.foldl stp s0)) vs) = _
  rw [hr, List.nil_append]
/-! sorted -/
theorem flt_int (n : Nat) (i : Int) : (D.int i).flt n = true := by cases n <;> rfl
theorem fltL_ints (n : Nat) : ∀ xs : List Int, fltL n (xs.map D.int) = true
  | [] => by simp [fltL]
  | x :: xs => by simp [fltL, flt_int, fltL_ints n xs]
theorem sortD_ints (xs : List Int) : sortD (xs.map D.int) = some ((sortI xs).map D.int) := by
  have al : PySem.W.AllAlike ((xs.map D.int).map D.py) := fun d hd d' hd' => by
    simp only [List.map_map, List.mem_map, Function.comp] at hd hd'
    obtain ⟨a, _, rfl⟩ := hd
    obtain ⟨b, _, rfl⟩ := hd'
    simp [D.py, PySem.W.alike]
  have so : PySem.W.Sortable ((xs.map D.int).map D.py) := .inr fun d hd => by
    simp only [List.map_map, List.mem_map, Function.comp] at hd
    obtain ⟨a, _, rfl⟩ := hd
    exact ⟨fun z => by simp [D.py] at z, fun ys z => by simp [D.py] at z⟩
  unfold sortD
  rw [if_pos ⟨fltL_ints 59 xs, al, so⟩]
  congr 1
  unfold sortI
  have key := PySem.W.dataLe_int (fun b : Int => b)
  have h2 : (xs.mergeSort fun a b => PySem.W.dataLe false D.py (D.int a) (D.int b)).map D.int = (xs.map D.int).mergeSort (PySem.W.dataLe false D.py) := List.map_mergeSort fun a _ b _ => rfl
  rw [← h2]
  have h3 : (fun a b : Int => PySem.W.dataLe false D.py (D.int a) (D.int b)) = fun a b => decide (a ≤ b) := by
    funext a b
    exact congrFun (congrFun key a) b
  rw [h3]
def leP (p q : Nat × Nat) : Bool := decide (p.1 < q.1 ∨ (p.1 = q.1 ∧ p.2 ≤ q.2))
def sortP (ps : List (Nat × Nat)) : List (Nat × Nat) := ps.mergeSort leP
theorem flt_pair (n : Nat) (p : Nat × Nat) : (pD p).flt (n + 1) = true := by simp [pD, D.flt, fltL, flt_int]
theorem fltL_pairs (n : Nat) : ∀ xs : List (Nat × Nat), fltL (n + 1) (xs.map pD) = true
  | [] => by simp [fltL]
  | x :: xs => by simp [fltL, flt_pair, fltL_pairs n xs]
theorem sortD_pairs (ps : List (Nat × Nat)) : sortD (ps.map pD) = some ((sortP ps).map pD) := by
  have al : PySem.W.AllAlike ((ps.map pD).map D.py) := fun d hd d' hd' => by
    simp only [List.map_map, List.mem_map, Function.comp] at hd hd'
    obtain ⟨a, _, rfl⟩ := hd
    obtain ⟨b, _, rfl⟩ := hd'
    simp [pD, D.py, pyL, PySem.W.alike, PySem.W.alikeAll]
  have so : PySem.W.Sortable ((ps.map pD).map D.py) := .inl fun d hd => by
    simp only [List.map_map, List.mem_map, Function.comp] at hd
    obtain ⟨a, _, rfl⟩ := hd
    exact ⟨.int a.1, [.int a.2], by simp [pD, D.py, pyL]⟩
  unfold sortD
  rw [if_pos ⟨fltL_pairs 58 ps, al, so⟩]
  congr 1
  unfold sortP
  have key := PySem.W.dataLe_ii (fun b : Nat × Nat => (b.1 : Int)) (fun b : Nat × Nat => (b.2 : Int))
  have h2 : (ps.mergeSort fun a b => PySem.W.dataLe false D.py (pD a) (pD b)).map pD = (ps.map pD).mergeSort (PySem.W.dataLe false D.py) := List.map_mergeSort fun a _ b _ => rfl
  rw [← h2]
  have h3 : (fun a b : Nat × Nat => PySem.W.dataLe false D.py (pD a) (pD b)) = leP := by
    funext a b
    have e : PySem.W.dataLe false D.py (pD a) (pD b) = PySem.W.dataLe false (fun b : Nat × Nat => PyData.tuple [.int (b.1 : Int), .int (b.2 : Int)]) a b := by
      simp only [PySem.W.dataLe_eq, pD, D.py, pyL]
    rw [e, congrFun (congrFun key a) b]
    unfold leP
    simp only [decide_eq_decide]
    omega
  rw [h3]
/-! == -/
theorem dEq_int (i j : Int) : dEq (.int i) (.int j) = some (.bl (i == j)) := by
  unfold dEq
  rw [if_pos ⟨flt_int 60 i, flt_int 60 j⟩]
  simp [D.py, PyData.eqv]
theorem dNe_int (i j : Int) : dNe (.int i) (.int j) = some (.bl (!(i == j))) := by
  unfold dNe
  rw [if_pos ⟨flt_int 60 i, flt_int 60 j⟩]
  simp [D.py, PyData.eqv]
theorem fnD_rt {nw : Bool} {n k : Nat} {s : FS} {ρa ρ' r : Ev} {d : D} {b : Bool} (e : s (ρa ++ List.replicate k .un) = some (.rt d b ρ')) (h : ρa.length = n) (hn : nw = false ∨ b = true) (hr : rstA ρa ρ' = r) : fnD nw n k s ρa = some (d, r) := by
  unfold fnD
  rw [if_pos h, e]
  show (if nw = true ∧ b = false then none else some (d, rstA ρa ρ')) = _
  rw [if_neg, hr]
  rintro ⟨h1, h2⟩
  rcases hn with z | z
  · rw [z] at h1; cases h1
  · rw [z] at h2; cases h2
end DL

set_option maxRecDepth 100000
namespace DL
open PySem PySem.Spec PyProof.Rows L2
/-! ### loops whose turns are only known to exist -/
theorem forL_ex {α σ : Type} {tmp : List Nat} {g : FG} {bd : FS} {all : List D} (enc : α → D) (R : σ → Ev) (P : List α → σ → Prop) (h : ∀ x xs s, P (x :: xs) s → ∃ s', P xs s' ∧ turnF tmp g bd (enc x) (R s) = some (R s')) : ∀ (xs : List α) (s0 : σ), P xs s0 →
    ∃ s', P [] s' ∧ forL tmp none all g bd (xs.map enc) (R s0) = some (.nx (R s'))
  | [], s0, h0 => ⟨s0, h0, rfl⟩
  | x :: xs, s0, h0 => by
    obtain ⟨s1, h1, e⟩ := h x xs s0 h0
    unfold turnF at e
    obtain ⟨ρ1, e1, e⟩ := Option.bind_eq_some_iff.mp e
    obtain ⟨o, e2, e⟩ := Option.bind_eq_some_iff.mp e
    have st : ∀ ρ, stable none all ρ = true := fun _ => rfl
    obtain ⟨s', ip, ih⟩ := forL_ex (tmp := tmp) (g := g) (bd := bd) (all := all) enc R P h xs s1 h1
    refine ⟨s', ip, ?_⟩
    show (g (enc x) (R s0)).bind _ = _
    rw [e1]
    show (bd ρ1).bind _ = _
    rw [e2]
    cases o with
    | nx ρ2 =>
      have e : wps tmp ρ2 = R s1 := Option.some.inj e
      show (if stable none all (wps tmp ρ2) then forL tmp none all g bd (xs.map enc) (wps tmp ρ2) else none) = _
      rw [if_pos (st _), e]
      exact ih
    | ct ρ2 =>
      have e : wps tmp ρ2 = R s1 := Option.some.inj e
      show (if stable none all (wps tmp ρ2) then forL tmp none all g bd (xs.map enc) (wps tmp ρ2) else none) = _
      rw [if_pos (st _), e]
      exact ih
    | bk _ => cases e
    | rt _ _ _ => cases e
theorem sFor_ex {α σ : Type} {tmp : List Nat} {fi : FI} {g : FG} {bd : FS} (enc : α → D) (R : σ → Ev) (P : List α → σ → Prop) (xs : List α) (s0 : σ) (hfi : fi (R s0) = some ((xs.map enc, none), R s0)) (h0 : P xs s0)
    (h : ∀ x xs s, P (x :: xs) s → ∃ s', P xs s' ∧ turnF tmp g bd (enc x) (R s) = some (R s')) :
    ∃ s', P [] s' ∧ sFor tmp fi g bd (R s0) = some (.nx (R s')) := by
  obtain ⟨s', h1, h2⟩ := forL_ex (tmp := tmp) (g := g) (bd := bd) (all := xs.map enc) enc R P h xs s0 h0
  refine ⟨s', h1, ?_⟩
  unfold sFor
  rw [hfi]
  exact h2
/-- a comprehension whose turns are only known to exist: what it hands on has Q -/
theorem lcL_ex {α β σ : Type} {vs : List Nat} {all : List D} {g : FG} {k : FT} {f : FE} (enc : α → D) (out : β → D) (R : σ → Ev) (P : σ → Prop) (Q : β → Prop) (h : ∀ x s, P s → ∃ s' b, P s' ∧ Q b ∧ turnC vs g k f (enc x) (R s) = some (some (out b), R s')) : ∀ (xs : List α) (s0 : σ) (acc : List D), acc.length + xs.length ≤ sizeLine → P s0 →
    ∃ (s' : σ) (bs : List β), P s' ∧ (∀ b ∈ bs, Q b) ∧ bs.length = xs.length ∧ lcL vs none all g k f (xs.map enc) (R s0) acc = some (acc ++ bs.map out, R s')
  | [], s0, acc, _, h0 => ⟨s0, [], h0, (fun b hb => by cases hb), rfl, by simp [lcL]⟩
  | x :: xs, s0, acc, hl, h0 => by
    obtain ⟨s1, b, h1, hb, e⟩ := h x s0 h0
    rw [List.length_cons] at hl
    unfold turnC at e
    obtain ⟨ρ1, e1, e⟩ := Option.bind_eq_some_iff.mp e
    obtain ⟨⟨c, ρ2⟩, e2, e⟩ := Option.bind_eq_some_iff.mp e
    obtain ⟨s', bs, i1, i2, i3, i4⟩ := lcL_ex (vs := vs) (all := all) (g := g) (k := k) (f := f) enc out R P Q h xs s1 (acc ++ [out b]) (by rw [List.length_append, List.length_singleton]; omega) h1
    refine ⟨s', b :: bs, i1, fun y hy => ?_, by simp [i3], ?_⟩
    · rcases List.mem_cons.mp hy with rfl | hy
      · exact hb
      · exact i2 y hy
    · show (g (enc x) (R s0)).bind _ = _
      rw [e1]
      show (k ρ1).bind _ = _
      rw [e2]
      cases c with
      | false =>
        dsimp only at e
        cases (Prod.mk.inj (Option.some.inj e)).1
      | true =>
        dsimp only at e
        obtain ⟨⟨r, ρ3⟩, e5, e⟩ := Option.bind_eq_some_iff.mp e
        show (f ρ2).bind _ = _
        rw [e5]
        cases r with
        | own i => cases e
        | val d =>
          dsimp only at e
          obtain ⟨e3, e4⟩ := Prod.mk.inj (Option.some.inj e)
          cases e3
          show (if Grd (acc.length < sizeLine ∧ lcL.stableL none all (wipeE ρ3 vs) = true) then lcL vs none all g k f (xs.map enc) (wipeE ρ3 vs) (acc ++ [out b]) else none) = _
          rw [e4, if_pos (show Grd (acc.length < sizeLine ∧ lcL.stableL none all (R s1) = true) from ⟨by omega, rfl⟩), i4]
          simp
theorem xLc_ex {α β σ : Type} {fi : FI} {vs : List Nat} {g : FG} {k : FT} {f : FE} (enc : α → D) (out : β → D) (R : σ → Ev) (P : σ → Prop) (Q : β → Prop) (xs : List α) (s0 : σ) (hfi : fi (R s0) = some ((xs.map enc, none), R s0)) (no : noOwn (R s0) vs = true) (hl : xs.length ≤ sizeLine) (hw : ∀ s, wipeE (R s) vs = R s)
    (hr : ∀ s s', rst (R s) (R s') vs = R s') (h0 : P s0) (h : ∀ x s, P s → ∃ s' b, P s' ∧ Q b ∧ turnC vs g k f (enc x) (R s) = some (some (out b), R s')) :
    ∃ (s' : σ) (bs : List β), P s' ∧ (∀ b ∈ bs, Q b) ∧ bs.length = xs.length ∧ xLc fi vs g k f (R s0) = some (.lst (bs.map out), R s') := by
  obtain ⟨s', bs, i1, i2, i3, i4⟩ := lcL_ex (vs := vs) (all := xs.map enc) (g := g) (k := k) (f := f) enc out R P Q h xs s0 [] (by simpa using hl) h0
  refine ⟨s', bs, i1, i2, i3, ?_⟩
  unfold xLc
  rw [hfi]
  show (if noOwn (R s0) vs then _ else none) = _
  rw [if_pos no]
  show (lcL vs none (xs.map enc) g k f (xs.map enc) (wipeE (R s0) vs) []).bind _ = _
  rw [hw, i4]
  show some (D.lst ([] ++ bs.map out), rst (R s0) (R s') vs) = _
  rw [hr, List.nil_append]
end DL

set_option maxRecDepth 100000
/-! ### a set's table takes any hashes that differ, up to 4000 of them -/
namespace DL
open PySem PySem.Spec PyProof.Rows L2
/-! the walk i -> 5 i + 1 meets every place of a table of 2 ^ k -/
def geo : Nat → Nat
  | 0 => 0
  | n + 1 => 5 * geo n + 1
theorem geo_pow : ∀ n, 4 * geo n + 1 = 5 ^ n
  | 0 => rfl
  | n + 1 => by
    have := geo_pow n
    rw [Nat.pow_succ, ← this]
    show 4 * (5 * geo n + 1) + 1 = _
    omega
theorem geo_add (b : Nat) : ∀ a, geo (a + b) = 5 ^ a * geo b + geo a
  | 0 => by simp [geo]
  | a + 1 => by
    have ih := geo_add b a
    rw [show a + 1 + b = (a + b) + 1 by omega]
    show 5 * geo (a + b) + 1 = 5 ^ (a + 1) * geo b + (5 * geo a + 1)
    rw [ih, Nat.pow_succ, Nat.mul_add, Nat.mul_comm (5 ^ a) 5, Nat.mul_assoc]
    omega
theorem geo_par : ∀ n, geo n % 2 = n % 2
  | 0 => rfl
  | n + 1 => by
    have := geo_par n
    show (5 * geo n + 1) % 2 = _
    omega
theorem cop_odd (k x : Nat) : Nat.Coprime (2 ^ k) (2 * x + 1) := by
  refine Nat.Coprime.pow_left k ?_
  show Nat.gcd 2 (2 * x + 1) = 1
  rw [Nat.gcd_rec, show (2 * x + 1) % 2 = 1 by omega]
  rfl
theorem geo_dvd : ∀ (k n : Nat), 2 ^ k ∣ geo n → 2 ^ k ∣ n
  | 0, n, _ => by simp
  | k + 1, n, h => by
    have hp := geo_par n
    have he : geo n % 2 = 0 := by
      obtain ⟨c, hc⟩ := h
      rw [hc, Nat.pow_succ, Nat.mul_right_comm, Nat.mul_comm]
      exact Nat.mul_mod_right 2 _
    obtain ⟨m, rfl⟩ : ∃ m, n = m + m := ⟨n / 2, by omega⟩
    have e : geo (m + m) = 2 * (geo m * (2 * geo m + 1)) := by
      rw [geo_add, ← geo_pow, Nat.add_mul, Nat.mul_add, Nat.mul_add, Nat.one_mul, Nat.mul_one]
      have : geo m * (2 * geo m) = 2 * (geo m * geo m) := by rw [Nat.mul_left_comm]
      rw [this, Nat.mul_assoc]
      omega
    rw [e, Nat.pow_succ, Nat.mul_comm (2 ^ k) 2] at h
    have h2 : 2 ^ k ∣ geo m * (2 * geo m + 1) := Nat.dvd_of_mul_dvd_mul_left (by omega) h
    have h3 := geo_dvd k m ((cop_odd k (geo m)).dvd_of_dvd_mul_right h2)
    rw [Nat.pow_succ, show m + m = m * 2 by omega]
    exact Nat.mul_dvd_mul_right h3 2
theorem lcgI_geo (m i : Nat) (hi : i ≤ m) : ∀ n, lcgI m i n = (5 ^ n * i + geo n) % (m + 1)
  | 0 => by
    show i = (1 * i + 0) % (m + 1)
    rw [Nat.one_mul, Nat.add_zero, Nat.mod_eq_of_lt (by omega)]
  | n + 1 => by
    show (lcgI m i n * 5 + 1) % (m + 1) = _
    rw [lcgI_geo m i hi n, Nat.add_mod, Nat.mul_mod, Nat.mod_mod, ← Nat.mul_mod, ← Nat.add_mod]
    congr 1
    have z : 5 ^ n * 5 * i = 5 ^ n * i * 5 := Nat.mul_right_comm _ _ _
    show (5 ^ n * i + geo n) * 5 + 1 = 5 ^ (n + 1) * i + (5 * geo n + 1)
    rw [Nat.pow_succ, z]
    omega
theorem lcgI_inj {m k i : Nat} (hm : m + 1 = 2 ^ k) (hi : i ≤ m) {a b : Nat} (hab : a ≤ b) (hb : b ≤ m) (e : lcgI m i a = lcgI m i b) : a = b := by
  rw [lcgI_geo m i hi, lcgI_geo m i hi] at e
  obtain ⟨d, rfl⟩ : ∃ d, b = a + d := ⟨b - a, by omega⟩
  have e2 : 5 ^ (a + d) * i + geo (a + d) = 5 ^ a * i + geo a + 5 ^ a * (geo d * (2 * (2 * i) + 1)) := by
    rw [geo_add, Nat.pow_add, ← geo_pow d]
    simp only [Nat.mul_add, Nat.add_mul, Nat.mul_one, Nat.one_mul]
    have : 5 ^ a * (4 * geo d) * i = 5 ^ a * (geo d * (2 * (2 * i))) := by
      rw [Nat.mul_assoc]
      congr 1
      rw [← Nat.mul_assoc 2 2 i, show 2 * 2 = 4 from rfl, Nat.mul_left_comm, ← Nat.mul_assoc]
    omega
  rw [e2] at e
  have h := Nat.sub_mod_eq_zero_of_mod_eq e.symm
  rw [Nat.add_sub_cancel_left] at h
  have h1 := Nat.dvd_of_mod_eq_zero h
  rw [hm] at h1
  have c5 : Nat.Coprime (2 ^ k) (5 ^ a) := by rw [← geo_pow a, show 4 * geo a + 1 = 2 * (2 * geo a) + 1 by omega]; exact cop_odd k _
  have h2 := c5.dvd_of_dvd_mul_left h1
  have h3 := (cop_odd k (2 * i)).dvd_of_dvd_mul_right h2
  have h4 := geo_dvd k d h3
  have := Nat.eq_zero_of_dvd_of_lt h4 (by omega)
  omega
theorem lcgI_on {m k i j : Nat} (hm : m + 1 = 2 ^ k) (hi : i ≤ m) (hj : j ≤ m) : ∃ n, n ≤ m ∧ lcgI m i n = j := by
  have nd : ((List.range (m + 1)).map (lcgI m i)).Nodup := by
    refine List.pairwise_map.mpr (List.Pairwise.imp_of_mem (fun {a b} ha hb hab e => ?_) (List.pairwise_lt_range (n := m + 1)))
    have ha := List.mem_range.mp ha
    have hb := List.mem_range.mp hb
    have := lcgI_inj hm hi (Nat.le_of_lt hab) (by omega) e
    omega
  rcases Classical.em (j ∈ (List.range (m + 1)).map (lcgI m i)) with c | c
  · obtain ⟨n, h1, h2⟩ := List.mem_map.mp c
    have := List.mem_range.mp h1
    exact ⟨n, by omega, h2⟩
  · exfalso
    have h := nat_nodup_len (j :: (List.range (m + 1)).map (lcgI m i)) (List.range (m + 1)) (List.nodup_cons.mpr ⟨c, nd⟩) fun x hx => by
      rcases List.mem_cons.mp hx with rfl | hx
      · exact List.mem_range.mpr (by omega)
      · obtain ⟨n, _, e⟩ := List.mem_map.mp hx
        rw [← e, lcgI_geo m i hi]
        exact List.mem_range.mpr (Nat.mod_lt _ (by omega))
    simp at h
    omega
theorem runs_meet {m k : Nat} (hm : m + 1 = 2 ^ k) (h : Int) {j : Nat} (hj : j ≤ m) : ∃ n, n ≤ m + 12 ∧ runI m (SetTable.bits h) n = j := by
  obtain ⟨n, hn, e⟩ := lcgI_on hm (runI_le m (SetTable.bits h) 12) hj
  refine ⟨12 + n, by omega, ?_⟩
  rw [runI_tail (bits_lt h), e]
theorem ways_meet {m k : Nat} (hm : m + 1 = 2 ^ k) (h : Int) {j : Nat} (hj : j ≤ m) : ∃ n, n < 10 * SetTable.turns m ∧ way m h n = j := by
  obtain ⟨n, hn, e⟩ := runs_meet hm h hj
  obtain ⟨c, hc, e2⟩ := run_nth m (SetTable.bits h) n
  refine ⟨c, by unfold SetTable.turns; omega, ?_⟩
  show (nth m (runAt m (SetTable.bits h % (m + 1)) (SetTable.bits h)) c).j = j
  rw [e2]
  exact e
theorem way_in (m : Nat) (h : Int) (n : Nat) : way m h n ≤ m := by
  have hi : SetTable.bits h % (m + 1) ≤ m := Nat.le_of_lt_succ (Nat.mod_lt _ (Nat.succ_pos _))
  have r := runEnd_bd hi
  have q := nth_in (m := m) n (runAt m (SetTable.bits h % (m + 1)) (SetTable.bits h)) (show _ + (SetTable.runEnd m _ - _) ≤ m by show SetTable.bits h % (m + 1) + _ ≤ m; omega)
  exact Nat.le_trans (Nat.le_add_right _ _) q
/-! laid anew -/
structure Ow (m n : Nat) (w : Array (Option Nat)) : Prop where
  sz : w.size = m + 1
  lt : ∀ j k, j ≤ m → oAt w j = some k → k < n
  al : ∀ k, k < n → ∃ j, j ≤ m ∧ oAt w j = some k
  ps : ∃ ps : List Nat, ps.length = n ∧ ∀ j, j ≤ m → oAt w j ≠ none → j ∈ ps
theorem ow_zero (m : Nat) : Ow m 0 (Array.replicate (m + 1) none) := ⟨by simp, fun j k hj e => (by rw [oAt_init hj] at e; cases e), fun k hk => (by omega), ⟨[], rfl, fun j hj e => (e (oAt_init hj)).elim⟩⟩
theorem ow_next {m k n : Nat} (hm : m + 1 = 2 ^ k) {w : Array (Option Nat)} (W : Ow m n w) (hl : n ≤ m) (h : Int) :
    ∃ j, SetTable.layClean.free m w (SetTable.turns m) (SetTable.bits h % (m + 1)) (SetTable.bits h) = some j ∧ Ow m (n + 1) (w.setIfInBounds j (some n)) := by
  obtain ⟨ps, p1, p2⟩ := W.ps
  obtain ⟨j0, a1, a2⟩ := st_missing ps (m + 1) (by omega)
  have a3 : oAt w j0 = none := Option.eq_none_iff_forall_ne_some.mpr fun x ex => a2 (p2 j0 (by omega) (by rw [ex]; exact fun z => nomatch z))
  obtain ⟨r, r1, r2⟩ := runs_meet hm h (show j0 ≤ m by omega)
  have r3 : way m h (off m (SetTable.bits h % (m + 1)) (SetTable.bits h) r) = j0 := by
    show (nth m (runAt m _ _) (off m _ _ r)).j = j0
    rw [nth_off, itL_run]
    exact r2
  obtain ⟨K, k1, k2, k3⟩ := st_least (p := fun c => oAt w (way m h c) = none) _ (show oAt w (way m h (off m (SetTable.bits h % (m + 1)) (SetTable.bits h) r)) = none by rw [show way m h _ = j0 from r3]; exact a3)
  have free := free_spec m w (SetTable.turns m) r (SetTable.bits h % (m + 1)) (SetTable.bits h) K (by unfold SetTable.turns; omega) k1 (fun c hc => by
    cases z : oAt w (nth m (runAt m (SetTable.bits h % (m + 1)) (SetTable.bits h)) c).j with
    | none => exact (k3 c hc z).elim
    | some x => rfl) (by rw [show oAt w (nth m (runAt m (SetTable.bits h % (m + 1)) (SetTable.bits h)) K).j = none from k2]; rfl)
  refine ⟨_, free, ?_⟩
  have jm := way_in m h K
  show Ow m (n + 1) (w.setIfInBounds (way m h K) (some n))
  generalize way m h K = j at k2 jm
  have s1 : oAt (w.setIfInBounds j (some n)) j = some n := oAt_set_self _ (by rw [W.sz]; omega)
  refine ⟨by rw [Array.size_setIfInBounds, W.sz], fun i x hi e => ?_, fun x hx => ?_, ⟨j :: ps, by rw [List.length_cons, p1], fun i hi e => ?_⟩⟩
  · by_cases c : i = j
    · rw [c, s1] at e; cases e; omega
    · rw [oAt_set_ne _ c] at e
      have := W.lt i x hi e
      omega
  · by_cases c : x = n
    · exact ⟨j, jm, by rw [c]; exact s1⟩
    · obtain ⟨i, i1, i2⟩ := W.al x (by omega)
      exact ⟨i, i1, by rw [oAt_set_ne _ (fun z => by rw [z, k2] at i2; cases i2)]; exact i2⟩
  · by_cases c : i = j
    · rw [c]; exact List.mem_cons_self
    · rw [oAt_set_ne _ c] at e
      exact List.mem_cons_of_mem _ (p2 i hi e)
theorem ow_all {m k : Nat} (hm : m + 1 = 2 ^ k) : ∀ (l : List Int) (n : Nat) (w : Array (Option Nat)), Ow m n w → n + l.length ≤ m → ∃ w', l.foldl (stepF m) (some (w, n)) = some (w', n + l.length) ∧ Ow m (n + l.length) w'
  | [], n, w, W, _ => ⟨w, rfl, W⟩
  | h :: l, n, w, W, hl => by
    rw [List.length_cons] at hl ⊢
    obtain ⟨j, e, W1⟩ := ow_next hm W (by omega) h
    obtain ⟨w', e2, W2⟩ := ow_all hm l (n + 1) _ W1 (by omega)
    rw [List.foldl_cons, stepF_some e, e2, show n + 1 + l.length = n + (l.length + 1) by omega]
    exact ⟨w', rfl, by rw [show n + (l.length + 1) = n + 1 + l.length by omega]; exact W2⟩
/-- a table of so many, no dummies -/
structure Tb (t : SetTable) (n : Nat) : Prop where
  ris : Ris t.place.toList
  dm : t.dummies = #[]
  sz : t.place.size = n
  pw : ∃ k, 3 ≤ k ∧ t.mask + 1 = 2 ^ k
  bd : ∀ x ∈ t.place.toList, x ≤ t.mask
  pl : t.plain = true
  rm : n * 5 < t.mask * 3
theorem laid_anew (t : SetTable) (hp : t.plain = true) {hs : Array Int} {wanted k : Nat} (hk : 3 ≤ k) (hw : SetTable.sizeAbove wanted = 2 ^ k) (hn : hs.size * 5 < (2 ^ k - 1) * 3) :
    ∃ t' order, t.relaid hs wanted = some (t', order) ∧ order.toList.Perm (List.range hs.size) ∧ Tb t' hs.size := by
  have h8 : 8 ≤ 2 ^ k := Nat.pow_le_pow_right (n := 2) (by omega) hk
  obtain ⟨m, hm⟩ : ∃ m, m + 1 = 2 ^ k := ⟨2 ^ k - 1, by omega⟩
  have hM : SetTable.sizeAbove wanted - 1 = m := by omega
  obtain ⟨w, e, W⟩ := ow_all hm hs.toList 0 _ (ow_zero m) (by rw [Array.length_toList]; omega)
  rw [Nat.zero_add, Array.length_toList] at e W
  have lc : SetTable.layClean m hs = some w := by rw [layClean_eq, e]; rfl
  have hr : t.relaid hs wanted = some (tabOf t m w, ((liveOf m w).map (·.2)).toArray) := by rw [relaid_eq, hM, lc]; rfl
  have hris := ris_live (fun j => w.getD j none) (List.range (m + 1)) (by
    unfold Ris
    first | exact List.pairwise_lt_range | exact List.pairwise_lt_range _)
  have r1 : Ris ((liveOf m w).map (·.1)) := hris.1
  have r2 : ∀ x ∈ (liveOf m w).map (·.1), x ≤ m := fun x hx => by have := List.mem_range.mp (hris.2 x hx); omega
  have nd : ((liveOf m w).map (·.1)).Nodup := List.Pairwise.imp (fun h => Nat.ne_of_lt h) r1
  have hin : ∀ k, k < hs.size → k ∈ (liveOf m w).map (·.2) := fun k hk => by
    obtain ⟨j, j1, j2⟩ := W.al k hk
    exact List.mem_map.mpr ⟨(j, k), (mem_live W.sz).2 ⟨j1, j2⟩, rfl⟩
  have hlen : (liveOf m w).length = hs.size := by
    obtain ⟨ps, p1, p2⟩ := W.ps
    have a := nat_nodup_len _ ps nd fun x hx => by
      obtain ⟨⟨y, c⟩, hq, eq1⟩ := List.mem_map.mp hx
      have ey : y = x := eq1
      subst ey
      obtain ⟨b1, b2⟩ := (mem_live W.sz).1 hq
      exact p2 y b1 (by rw [b2]; exact fun z => nomatch z)
    have b := nat_nodup_len (List.range hs.size) _ List.nodup_range fun k hk => hin k (List.mem_range.mp hk)
    simp only [List.length_map, List.length_range] at a b
    omega
  refine ⟨_, _, hr, perm_range hs.size _ ?_ hin, r1, rfl, ?_, ⟨k, hk, hm⟩, r2, hp, ?_⟩
  · show ((liveOf m w).map (·.2)).length = _
    rw [List.length_map, hlen]
  · show ((liveOf m w).map (·.1)).toArray.size = _
    rw [List.size_toArray, List.length_map, hlen]
  · show _ < m * 3
    omega
theorem above_go (n : Nat) : ∀ (f k : Nat), 3 ≤ k → n < 2 ^ (k + f) → (k = 3 ∨ 2 ^ k ≤ 2 * n) → ∃ k', 3 ≤ k' ∧ SetTable.sizeAbove.go n f (2 ^ k) = 2 ^ k' ∧ n < 2 ^ k' ∧ (k' = 3 ∨ 2 ^ k' ≤ 2 * n)
  | 0, k, h3, h, h2 => ⟨k, h3, rfl, h, h2⟩
  | f + 1, k, h3, h, h2 => by
    unfold SetTable.sizeAbove.go
    by_cases c : 2 ^ k ≤ n
    · rw [if_pos c, ← Nat.pow_succ]
      exact above_go n f (k + 1) (by omega) (by rw [show k + 1 + f = k + (f + 1) by omega]; exact h) (.inr (by rw [Nat.pow_succ]; omega))
    · rw [if_neg c]
      exact ⟨k, h3, rfl, by omega, h2⟩
theorem above_pow (n : Nat) (h : n < 1000000) : ∃ k, 3 ≤ k ∧ SetTable.sizeAbove n = 2 ^ k ∧ n < 2 ^ k ∧ (k = 3 ∨ 2 ^ k ≤ 2 * n) :=
  above_go n 64 3 (by omega) (by
    have : (1000000 : Nat) < 2 ^ (3 + 64) := by decide
    omega) (.inl rfl)
theorem tb_put {t : SetTable} {n j : Nat} (T : Tb t n) (hj : j ∉ t.place.toList) (hm : j ≤ t.mask) :
    SetTable.below t.place j ≤ n ∧ Ris (t.put j).1.place.toList ∧ (t.put j).1.dummies = #[] ∧ (t.put j).1.place.size = n + 1 ∧ ∀ x ∈ (t.put j).1.place.toList, x ≤ t.mask := by
  obtain ⟨c1, _, _⟩ := below_cut T.ris j
  have hl : SetTable.below t.place j ≤ t.place.toList.length := by rw [Array.length_toList]; exact c1
  have hpp := put_place t j
  refine ⟨by rw [← T.sz]; exact c1, ris_insert T.ris fun e => hj (List.mem_of_getElem? (by rw [Array.getElem?_toList]; exact e)), put_dm T.dm j, ?_, fun x hx => ?_⟩
  · rw [← Array.length_toList, hpp, len_ins _ hl, Array.length_toList, T.sz]
  · rw [hpp] at hx
    rcases mem_ins.1 hx with z | z
    · omega
    · exact T.bd x z
theorem perm_pick {hs : Array Int} {order : Array Nat} (p : order.toList.Perm (List.range hs.size)) : (order.filterMap (hs[·]?)).toList.Perm hs.toList := by
  rw [Array.toList_filterMap]
  refine (p.filterMap _).trans (List.Perm.of_eq ?_)
  have e : ∀ l : List Int, (List.range l.length).filterMap (fun i => l[i]?) = l := by
    intro l
    induction l with
    | nil => rfl
    | cons a l ih =>
      rw [List.length_cons, List.range_succ_eq_map, List.filterMap_cons]
      simp only [List.getElem?_cons_zero, List.filterMap_map]
      congr 1
  have h := e hs.toList
  simpa using h
/-- ONE MORE: a hash that is not there -/
theorem dlAdd_new {hs : Array Int} {t : SetTable} {h : Int} (T : Tb t hs.size) (hz : hs.size < 4000) (hn : h ∉ hs.toList) :
    ∃ hs' t', dlAdd hs t h = some (hs', t') ∧ Tb t' hs'.size ∧ hs'.size = hs.size + 1 ∧ hs'.toList.Perm (h :: hs.toList) := by
  obtain ⟨k, hk, hm⟩ := T.pw
  have h8 : 8 ≤ 2 ^ k := Nat.pow_le_pow_right (n := 2) (by omega) hk
  have hrm := T.rm
  have hfill : t.fill = hs.size := by
    show t.place.size + t.dummies.size = _
    rw [T.sz, T.dm]
    rfl
  have hfits : t.fits hs.size = true := by
    unfold SetTable.fits
    rw [hfill, T.sz]
    simp
    omega
  have hgw : t.gaveWay = false := by
    have : t.mask % 2 = 1 := by
      obtain ⟨c, rfl⟩ : ∃ c, k = c + 1 := ⟨k - 1, by omega⟩
      rw [Nat.pow_succ] at hm
      omega
    unfold SetTable.gaveWay
    rw [this]
    rfl
  obtain ⟨j0, a1, a2⟩ := st_missing t.place.toList (t.mask + 1) (by rw [Array.length_toList, T.sz]; omega)
  obtain ⟨c, c1, c2⟩ := ways_meet hm h (show j0 ≤ t.mask by omega)
  obtain ⟨K, k1, k2, k3⟩ := st_least (p := fun k => way t.mask h k ∉ t.place.toList) c (by show way t.mask h c ∉ _; rw [show way t.mask h c = j0 from c2]; exact a2)
  have hne : ∀ i, ((fun i => (hs[i]?).getD 0) i) = h → ∀ j, t.place.toList[i]? = some j → False := fun i e j hj => by
    have hi := (List.getElem?_eq_some_iff.mp hj).1
    rw [Array.length_toList, T.sz] at hi
    simp only [Array.getElem?_eq_getElem hi, Option.getD_some] at e
    exact hn (by rw [← e, Array.getElem?_eq_getElem hi]; simp)
  have probe : t.probe (fun i => (hs[i]?).getD 0) h (t.probeStart h) = some (.empty (way t.mask h K) none) := by
    rw [start_run]
    rcases go_spec t T.ris T.dm (fun i => (hs[i]?).getD 0) h (10 * SetTable.turns t.mask) K _ rfl (by omega) (fun k hk => Classical.not_not.mp (k3 k hk)) k2 with ⟨k', i, _, b2, b3, _⟩ | ⟨_, b2⟩
    · exact (hne i b3 _ b2).elim
    · exact b2
  have hjm := way_in t.mask h K
  generalize way t.mask h K = j at k2 probe hjm
  obtain ⟨q1, q2, q3, q4, q5⟩ := tb_put T k2 hjm
  have hins : (SetTable.insertAt hs (SetTable.below t.place j) h).toList = hs.toList.take (SetTable.below t.place j) ++ h :: hs.toList.drop (SetTable.below t.place j) := SetTable.toList_insertAt _ _ _
  have hperm : (SetTable.insertAt hs (SetTable.below t.place j) h).toList.Perm (h :: hs.toList) := by
    rw [hins]
    refine List.perm_middle.trans ?_
    rw [List.take_append_drop]
  have hsize : (SetTable.insertAt hs (SetTable.below t.place j) h).size = hs.size + 1 := by
    have := hperm.length_eq
    simpa using this
  have hpl : (t.put j).1.plain = true := T.pl
  have hmk : (t.put j).1.mask = t.mask := rfl
  have hfill1 : (t.put j).1.fill = hs.size + 1 := by
    show (t.put j).1.place.size + (t.put j).1.dummies.size = _
    rw [q4, q3]
    rfl
  unfold dlAdd
  rw [if_pos (by simp [hfits, hgw, T.pl, hz]), probe]
  dsimp only
  generalize SetTable.insertAt hs (SetTable.below t.place j) h = hs1 at hperm hsize
  generalize (t.put j).1 = t1 at q2 q3 q4 q5 hpl hmk hfill1
  by_cases full : t1.tooFull = true
  · rw [if_pos full]
    obtain ⟨k', s1, s2, s3, s4⟩ := above_pow (SetTable.grown (hs.size + 1)) (by unfold SetTable.grown; rw [if_neg (by omega)]; omega)
    have hg : SetTable.grown (hs.size + 1) = (hs.size + 1) * 4 := by unfold SetTable.grown; rw [if_neg (by omega)]
    rw [hg] at s2 s3 s4 ⊢
    have hsl := sizeLine_eq
    have hb : 2 ^ k' ≤ 32000 := by
      rcases s4 with rfl | s4
      · decide
      · omega
    have hf1 : t1.fits hs1.size = true := by
      unfold SetTable.fits
      rw [hfill1, q4, hsize]
      simp
      omega
    rw [if_pos (by rw [hf1, s2]; simp; omega)]
    obtain ⟨t2, order, e, p, T2⟩ := laid_anew t1 hpl (hs := hs1) s1 s2 (by omega)
    rw [e]
    have pp := perm_pick p
    have ps : (order.filterMap (hs1[·]?)).size = hs1.size := by
      have := pp.length_eq
      rw [Array.length_toList, Array.length_toList] at this
      exact this
    dsimp only
    rw [if_pos (by rw [ps]; simp)]
    exact ⟨_, _, rfl, by rw [ps]; exact T2, by rw [ps, hsize], pp.trans hperm⟩
  · rw [if_neg full]
    refine ⟨_, _, rfl, ⟨q2, q3, by rw [q4, hsize], ⟨k, hk, by rw [hmk]; exact hm⟩, by rw [hmk]; exact q5, hpl, ?_⟩, hsize, hperm⟩
    unfold SetTable.tooFull at full
    simp only [decide_eq_true_eq, ge_iff_le, Nat.not_le] at full
    rw [hfill1, hmk] at full
    rw [hsize, hmk]
    exact full
theorem dlAll_new : ∀ (l : List Int) (hs : Array Int) (t : SetTable), Tb t hs.size → hs.size + l.length ≤ 4000 → (hs.toList ++ l).Nodup → ∃ z, dlAll l (hs, t) = some z ∧ Tb z.2 z.1.size ∧ z.1.size = hs.size + l.length
  | [], hs, t, T, _, _ => ⟨_, rfl, T, rfl⟩
  | h :: l, hs, t, T, hl, nd => by
    rw [List.length_cons] at hl ⊢
    have hn : h ∉ hs.toList := fun z => (List.nodup_append.mp nd).2.2 h z h List.mem_cons_self rfl
    obtain ⟨hs', t', e, T', s, p⟩ := dlAdd_new T (by omega) hn
    obtain ⟨z, e2, T2, s2⟩ := dlAll_new l hs' t' T' (by omega) ((List.Perm.nodup_iff ((p.append_right l).trans (List.perm_middle (l₁ := hs.toList)).symm)).mpr nd)
    refine ⟨z, ?_, T2, by omega⟩
    unfold dlAll
    show (dlAdd hs t h).bind _ = _
    rw [e]
    exact e2
/-- so many keys: the table takes hashes that differ -/
theorem dlCount_new {l : List Int} (nd : l.Nodup) (hl : l.length ≤ 4000) : dlCount l = some l.length := by
  have T0 : ∀ led, Tb (.fresh 0 0 led) (#[] : Array Int).size := fun led => ⟨by simp [Ris, SetTable.fresh], rfl, rfl, ⟨3, by omega, rfl⟩, fun x hx => by simp [SetTable.fresh] at hx, rfl, by show 0 * 5 < 7 * 3; omega⟩
  obtain ⟨a, a1, a2, a3⟩ := dlAll_new l #[] (.fresh 0 0 true) (T0 true) (by simpa using hl) (by simpa using nd)
  obtain ⟨b, b1, b2, b3⟩ := dlAll_new l #[] (.fresh 0 0 false) (T0 false) (by simpa using hl) (by simpa using nd)
  have a3 : a.1.size = l.length := by simpa using a3
  have b3 : b.1.size = l.length := by simpa using b3
  have fits : ∀ {t : SetTable} {n : Nat}, Tb t n → t.fits n = true := fun {t n} T => by
    have := T.rm
    have hf : t.fill = n := by
      show t.place.size + t.dummies.size = _
      rw [T.sz, T.dm]
      rfl
    unfold SetTable.fits
    rw [hf, T.sz]
    simp
    omega
  unfold dlCount
  rw [a1, b1]
  dsimp only
  rw [fits a2, fits b2, a3, b3, if_pos (by simp; omega)]
end DL

set_option maxRecDepth 100000
namespace DL
open PySem PySem.Spec PyProof.Rows L2
/-! ### dicts with ints and texts as keys -/
def keyD : D → Option Key
  | .int i => some (.inl i)
  | .str x => some (.inr x)
  | _ => none
def keyV : D → V
  | .int i => .int i
  | .str x => .str x
  | _ => .non
def kD : Key → D
  | .inl i => .int i
  | .inr x => .str x
def valK (kvs : List (Key × D)) (k : Key) : Option D := (kvs.find? fun kv => decide (kv.1 = k)).map (·.2)
def putKD (kvs : List (Key × D)) (k : Key) (d : D) : List (Key × D) := if (kvs.any fun kv => decide (kv.1 = k)) = true then kvs.map fun kv => if kv.1 = k then (kv.1, d) else kv else kvs ++ [(k, d)]
section
variable {G : Gx} {M : Addr → Prop} {H : Hp}
theorem RepT.key {v : V} {d : D} {k : Key} (r : RepT G M H v d) (e : keyD d = some k) : v = kV k := by
  cases d with
  | int i => cases e; exact r.int
  | str x => cases e; exact r.str
  | _ => cases e
theorem Rep.key {v : V} {d : D} {k : Key} (r : Rep G M H v d) (e : keyD d = some k) : v = kV k := RepT.key (.inl r) e
theorem rep_kD (k : Key) : Rep G M H (kV k) (kD k) := by
  cases k with
  | inl i => exact .int i
  | inr x => exact .str x
theorem RepT.dct {v : V} {ds : List (Key × D)} (h : RepT G M H v (.dct ds)) : ∃ a ks, v = .ref a ∧ H a = some (.dK ks) ∧ RepK G M H ks ds := by
  rcases h with h | ⟨a, rfl, h⟩
  · cases h with
    | dct _ h2 h3 => exact ⟨_, _, rfl, h2, h3⟩
  · cases h with
    | dct h2 h3 => exact ⟨_, _, rfl, h2, h3⟩
theorem RepK.val {k : Key} : ∀ {ds : List (Key × D)} {vs : List (Key × V)}, RepK G M H vs ds → (valK ds k = none → valV vs k = none) ∧ ∀ d, valK ds k = some d → ∃ v, valV vs k = some v ∧ Rep G M H v d
  | _, _, .nil => ⟨fun _ => rfl, fun d e => by cases e⟩
  | (x, d0) :: ds, (_, v0) :: vs, .cons r t => by
    obtain ⟨h1, h2⟩ := RepK.val (k := k) t
    by_cases c : x = k
    · have e1 : valK ((x, d0) :: ds) k = some d0 := by simp [valK, List.find?_cons, c]
      refine ⟨fun e => (by rw [e1] at e; cases e), fun d e => ?_⟩
      rw [e1] at e
      cases e
      exact ⟨v0, valV_pos c, r⟩
    · have e1 : valK ((x, d0) :: ds) k = valK ds k := by simp [valK, List.find?_cons, c]
      rw [e1, valV_neg c]
      exact ⟨h1, h2⟩
theorem RepK.any {k : Key} : ∀ {ds : List (Key × D)} {vs : List (Key × V)}, RepK G M H vs ds → (vs.any fun kv => decide (kv.1 = k)) = ds.any fun kv => decide (kv.1 = k)
  | _, _, .nil => rfl
  | (x, d0) :: ds, (_, v0) :: vs, .cons r t => by simp only [List.any_cons, RepK.any (k := k) t]
theorem RepK.len : ∀ {ds : List (Key × D)} {vs : List (Key × V)}, RepK G M H vs ds → vs.length = ds.length
  | _, _, .nil => rfl
  | _, _, .cons r t => by rw [List.length_cons, List.length_cons, RepK.len t]
theorem RepK.keys : ∀ {ds : List (Key × D)} {vs : List (Key × V)}, RepK G M H vs ds → RepL G M H (vs.map fun kv => kV kv.1) (ds.map fun kv => kD kv.1)
  | _, _, .nil => .nil
  | _, _, .cons r t => .cons (rep_kD _) (RepK.keys t)
theorem RepK.repl {k : Key} {v : V} {d : D} (rv : Rep G M H v d) : ∀ {ds : List (Key × D)} {vs : List (Key × V)}, RepK G M H vs ds → RepK G M H (vs.map fun kv => if kv.1 = k then (kv.1, v) else kv) (ds.map fun kv => if kv.1 = k then (kv.1, d) else kv)
  | _, _, .nil => .nil
  | (x, d0) :: ds, (_, v0) :: vs, .cons r t => by
    simp only [List.map_cons]
    by_cases c : x = k
    · simp only [c, if_true]
      exact .cons rv (RepK.repl rv t)
    · simp only [c, if_false]
      exact .cons r (RepK.repl rv t)
theorem RepK.snoc {k : Key} {v : V} {d : D} (rv : Rep G M H v d) : ∀ {ds : List (Key × D)} {vs : List (Key × V)}, RepK G M H vs ds → RepK G M H (vs ++ [(k, v)]) (ds ++ [(k, d)])
  | _, _, .nil => .cons rv .nil
  | _, _, .cons r t => .cons r (RepK.snoc rv t)
theorem RepK.put {k : Key} {v : V} {d : D} {ds : List (Key × D)} {vs : List (Key × V)} (rv : Rep G M H v d) (t : RepK G M H vs ds) : RepK G M H (putK vs k v) (putKD ds k d) := by
  unfold putK putKD
  rw [t.any (k := k)]
  split
  · exact t.repl rv
  · exact t.snoc rv
theorem RepK.updO {N : Addr → Prop} {σ : L2.St} {ρ : Ev} {a : Addr} {o : HO} {vs : List (Key × V)} {ds : List (Key × D)} (own : OwnS σ ρ a) (r : RepK G (MM N σ ρ) H vs ds) : RepK G (MM N σ ρ) (upd H a o) vs ds :=
  r.mono (fun c z => .inl z) fun c u e z => by rw [upd_ne (fun q => z (by rw [q]; exact .inr own))]; exact e
end
section
variable {G : Gx} {X : Cx} {a b o e : Expr} {f f1 f2 : FE} {pos : Pos} {x : Str}
/-- k in d -/
def rDIn : R2 := fun y d H Q => ∃ a o, d = .ref a ∧ DGet H a y o ∧ Q (.bl o.isSome) H
def rDNotIn : R2 := fun y d H Q => ∃ a o, d = .ref a ∧ DGet H a y o ∧ Q (.bl (!o.isSome)) H
theorem op_din (hu : X.A.units + 1 < cLine) : OpR X (compareOp .In) rDIn := by
  intro pins s σ H x y v u Q I rx ry h
  obtain ⟨a, o, rfl, g, q⟩ := h
  obtain rfl : u = Value.ref a := ry
  exact d_in hu I g rx fun s3 I3 => ⟨.bl o.isSome, H, I3, rfl, q⟩
theorem op_dnotin (hu : X.A.units + 1 < cLine) : OpR X (compareOp .NotIn) rDNotIn := by
  intro pins s σ H x y v u Q I rx ry h
  obtain ⟨a, o, rfl, g, q⟩ := h
  obtain rfl : u = Value.ref a := ry
  exact d_notIn hu I g rx fun s3 I3 => ⟨.bl (!o.isSome), H, I3, rfl, q⟩
def dInD : D → D → Option D := fun a b => match b with
  | .dct kvs => (keyD a).bind fun k => some (.bl (valK kvs k).isSome)
  | _ => none
def dNotInD : D → D → Option D := fun a b => match b with
  | .dct kvs => (keyD a).bind fun k => some (.bl (!(valK kvs k).isSome))
  | _ => none
theorem val_isSome {M : Addr → Prop} {H : Hp} {vs : List (Key × V)} {ds : List (Key × D)} (t : RepK G M H vs ds) (k : Key) : (valV vs k).isSome = (valK ds k).isSome := by
  obtain ⟨h1, h2⟩ := t.val (k := k)
  cases z : valK ds k with
  | none => rw [h1 z]; rfl
  | some d =>
    obtain ⟨v, e, _⟩ := h2 d z
    rw [e]
    rfl
theorem v_inD (hu : X.A.units + 65 < cLine) : VOp G X (compareOp .In) dInD := by
  refine ⟨_, op_din (by omega), fun M H x y dx dy d Q hm rx ry e q => ?_⟩
  unfold dInD at e
  split at e
  · obtain ⟨k, e1, e⟩ := Option.bind_eq_some_iff.mp e
    cases e
    obtain ⟨a, ks, rfl, h1, h2⟩ := ry.dct
    rw [rx.key e1]
    exact ⟨a, _, rfl, .k h1, by rw [val_isSome h2]; exact q _ H (.refl H) (.bl _)⟩
  · cases e
theorem v_notInD (hu : X.A.units + 65 < cLine) : VOp G X (compareOp .NotIn) dNotInD := by
  refine ⟨_, op_dnotin (by omega), fun M H x y dx dy d Q hm rx ry e q => ?_⟩
  unfold dNotInD at e
  split at e
  · obtain ⟨k, e1, e⟩ := Option.bind_eq_some_iff.mp e
    cases e
    obtain ⟨a, ks, rfl, h1, h2⟩ := ry.dct
    rw [rx.key e1]
    exact ⟨a, _, rfl, .k h1, by rw [val_isSome h2]; exact q _ H (.refl H) (.bl _)⟩
  · cases e
/-- d[k] -/
def dGetK : D → D → Option D := fun a b => match a with
  | .dct kvs => (keyD b).bind fun k => valK kvs k
  | _ => none
theorem DE.dget (hu : X.A.units + 65 < cLine) (ha : DE G X a f1) (hb : DE G X b f2) (hs : NoSl b) : DE G X (.Subscript a b pos) (xBin dGetK f1 f2) := by
  obtain ⟨t1, p1, q1⟩ := ha.ex
  obtain ⟨t2, p2, q2⟩ := hb.ex
  refine ⟨_, pe_dget (by omega) p1 p2 hs, fun N σ H ρ rr ρ' Q I e q => ?_⟩
  obtain ⟨z1, e1, e⟩ := Option.bind_eq_some_iff.mp e
  obtain ⟨z2, e2, e⟩ := Option.bind_eq_some_iff.mp e
  obtain ⟨d1, e3, e⟩ := Option.bind_eq_some_iff.mp e
  obtain ⟨d2, e4, e⟩ := Option.bind_eq_some_iff.mp e
  obtain ⟨d, e5, e⟩ := Option.bind_eq_some_iff.mp e
  cases e
  refine two_run q1 q2 I e1 e2 e3 e4 fun x y H2 g2 rx ry => ?_
  unfold dGetK at e5
  split at e5
  · obtain ⟨k, e6, e7⟩ := Option.bind_eq_some_iff.mp e5
    obtain ⟨p, ks, rfl, h1, h2⟩ := rx.dct
    obtain ⟨v, h3, h4⟩ := (h2.val (k := k)).2 d e7
    have dg := DGet.k (k := k) h1
    rw [h3] at dg
    rw [ry.key e6]
    exact ⟨p, v, rfl, dg, q v H2 g2 h4⟩
  · cases e5
/-- name[k] = e of an own dict -/
noncomputable def sPutD (i : Nat) (fk fv : FE) : FS := fun ρ => if isOw ρ i then (fv ρ).bind fun z => match z.1 with
  | .val d => (fk z.2).bind fun y => match y.1 with
    | .val dk => match y.2[i]? with
      | some (.ow b (.dct kvs)) => (keyD dk).bind fun k => if Grd (kvs.length < sizeLine) then some (.nx (y.2.set i (.ow b (.dct (putKD kvs k d))))) else none
      | _ => none
    | .own _ => none
  | .own _ => none
  else none
theorem DS.putD (hu : X.A.units + 65 < cLine) (i : Nat) {pos2 pos' : Pos} {kx value : Expr} {fk fv : FE} (hN : X.N[i]? = some x) (hv : Vis X.env.scope x) (hd : (x == ("__debug__" : Str)) = false) (hcd : (x == ("__classdict__" : Str)) = false) (h : DE G X kx fk) (h2 : DE G X value fv)
    (hs : swapsWith value (some (.Subscript (.Name x pos2) kx pos')) pos.line X.env = pure false) : DS G X (.Assign [.Subscript (.Name x pos2) kx pos'] value pos) (sPutD i fk fv) := by
  obtain ⟨t, p, q⟩ := h.ex
  obtain ⟨t2, p2, q2⟩ := h2.ex
  refine ⟨_, ps_dput (by omega) (pe_var hN hv hd hcd) p p2 hs, fun N σ H ρ o E I e w => ?_⟩
  unfold sPutD at e
  split at e
  · rename_i hw
    obtain ⟨b0, d0, h0⟩ := isOw_ex hw
    obtain ⟨a, ea, _, _⟩ := I.ow i b0 d0 h0
    obtain ⟨⟨r1, ρ1⟩, e1, e⟩ := Option.bind_eq_some_iff.mp e
    cases r1 with
    | own j => cases e
    | val d =>
      obtain ⟨⟨r2, ρ2⟩, e2, e⟩ := Option.bind_eq_some_iff.mp e
      cases r2 with
      | own j => cases e
      | val dk =>
      dsimp only at e
      split at e
      · rename_i b kvs hsl
        obtain ⟨k, e3, e⟩ := Option.bind_eq_some_iff.mp e
        split at e
        · rename_i hz
          cases e
          refine q2 N σ H ρ _ ρ1 _ I e1 fun v H1 g1 rv => ⟨_, ea, q N σ H1 ρ1 _ ρ2 _ g1.env e2 fun y H2 g2 ry => ?_⟩
          obtain ⟨a2, e4, _, o⟩ := g2.env.ow i b (.dct kvs) hsl
          rw [ea] at e4
          cases e4
          have ry : Rep G _ H2 y dk := ry
          cases o with
          | dct h1 h2 =>
            rename_i ks
            have own : OwnS σ ρ2 a := ⟨i, b, .dct kvs, hsl, ea⟩
            have gu := GoE.updS (d' := .dct (putKD kvs k d)) (o := .dK (putK ks k v)) g2.env hsl ea (.dct upd_same ((h2.updO own).put ((g2.rep rv).updO own)))
            rw [ry.key e3]
            exact ⟨a, _, rfl, .k h1 (by rw [h2.len]; exact hz), w σ _ ((g1.go.trans g2.go).trans gu.go)⟩
        · cases e
      · cases e
  · cases e
/-- {k: e} -/
def xDct1 (fk fv : FE) : FN := fun ρ => (fk ρ).bind fun z => (fv z.2).bind fun y => match z.1 with
  | .val dk => match y.1 with
    | .val d => (keyD dk).bind fun k => some (.dct [(k, d)], y.2)
    | .own _ => none
  | .own _ => none
theorem DN.dct1 {kx vx : Expr} {fk fv : FE} (h : DE G X kx fk) (h2 : DE G X vx fv) : DN G X (.Dict [some kx] [vx] pos) (xDct1 fk fv) := by
  obtain ⟨t, p, q⟩ := h.ex
  obtain ⟨t2, p2, q2⟩ := h2.ex
  refine ⟨_, pe_disp (pps_cons p p2 pps_nil) (by rfl) (by rfl) (fun z => by cases z) (by simp), fun N σ H ρ d ρ' Q I e w => ?_⟩
  unfold xDct1 at e
  obtain ⟨⟨r1, ρ1⟩, e1, e⟩ := Option.bind_eq_some_iff.mp e
  obtain ⟨⟨r2, ρ2⟩, e2, e⟩ := Option.bind_eq_some_iff.mp e
  cases r1 with
  | own j => cases e
  | val dk =>
  cases r2 with
  | own j => cases e
  | val d0 =>
    obtain ⟨k, e3, e⟩ := Option.bind_eq_some_iff.mp e
    cases e
    intro pp hp
    have s0 : Same H (upd H pp (.dK [])) := same_new hp
    have I1 : EnvOk G (addN N pp) (upd H pp (.dK [])) σ ρ := I.more s0 hp (by rw [upd_same]; exact fun z => nomatch z)
    refine q _ σ _ ρ _ ρ1 _ I1 e1 fun v1 H1 g1 r1 => ?_
    refine q2 _ σ H1 ρ1 _ ρ2 _ g1.env e2 fun v2 H2 g2 r2 => ?_
    have g := g1.trans g2
    have npp : ¬ OwnS σ ρ pp := fun ⟨i, b, d, z1, z2⟩ => by
      obtain ⟨a, z3, z4, _⟩ := I1.ow i b d z1
      rw [z2] at z3
      cases z3
      exact z4 (.inr rfl)
    have hH2 : H2 pp = some (.dK []) := g.fr pp _ upd_same npp
    have r1 : Rep G _ H1 v1 dk := r1
    have r2 : Rep G _ H2 v2 d0 := r2
    refine ⟨hH2, [(k, v2)], by rw [List.map_cons, List.map_nil, r1.key e3], by show 1 ≤ 15; omega, ?_⟩
    have hM : ∀ a, addN (MM N σ ρ2) pp a ↔ MM (addN N pp) σ ρ2 a := fun a => by rw [mm_add]
    have nM : ∀ c u, H2 c = some u → ¬ MM (addN N pp) σ ρ2 c → upd H2 pp (.dK [(k, v2)]) c = some u := fun c u z n => by
      rw [upd_ne (fun q => n (by rw [q]; exact .inl (.inr rfl)))]; exact z
    have hupd : ∀ c, H2 c ≠ none → upd H2 pp (.dK [(k, v2)]) c ≠ none := fun c z => by
      by_cases hc : c = pp
      · rw [hc, upd_same]; exact fun z => nomatch z
      · rw [upd_ne hc]; exact z
    show Q (.ref pp) (upd H2 pp (.dK [(k, v2)]))
    refine w pp _ ⟨⟨g.env.len, fun c z => hupd c (g.env.dom c z), fun i d1 z => ?_, fun i b d1 z => ?_, g.env.ne⟩, fun c u z n => ?_, fun c z => hupd c (g.dom c (by
      cases y : H c with
      | none => exact absurd y z
      | some u => rw [s0 c u y]; exact fun z => nomatch z)), g.shape⟩ hp ?_
    · obtain ⟨v, z1, z2⟩ := g.env.imm i d1 z
      exact ⟨v, z1, z2.mono (fun c z => .inl z) nM⟩
    · obtain ⟨a, z1, z2, z3⟩ := g.env.ow i b d1 z
      exact ⟨a, z1, z2, z3.mono (fun c z => .inl z) nM (upd_ne fun q => z2 (.inr q))⟩
    · rw [upd_ne (ne_of_none z hp)]
      exact g.fr c u (s0 c u z) n
    · exact .dct upd_same (.cons (r2.mono (fun c z => .inl ((hM c).mp z)) nM) .nil)
/-- list(d) -/
def dListD : List D → Option D
  | [.dct kvs] => some (.lst (kvs.map fun kv => kD kv.1))
  | _ => none
theorem b_listD (hc : X.calm = true) : VCallN G X (.type "list") dListD := by
  refine ⟨_, call_list_dK hc, fun M H vs ds d Q hm r e q => ?_⟩
  unfold dListD at e
  split at e
  · cases e
    obtain ⟨v, rfl, rt⟩ := r.one
    obtain ⟨a, ks, rfl, h1, h2⟩ := rt.dct
    exact ⟨a, ks, rfl, h1, fun p hp => q p _ (same_new hp) hp (new_lst hp h2.keys)⟩
  · cases e
end
end DL

set_option maxRecDepth 100000
namespace DL
open PySem PySem.Spec PyProof.Rows L2
section
variable {G : Gx} {X : Cx} {a b c d e : Expr} {f f1 f2 f3 f4 : FE} {pos : Pos} {x : Str}
/-! ### a < b < c, a < b < c < d as tests -/
def tCh2 (r r' : R2) (ta tb tc : TE) : TT := fun σ H Q => ta σ H fun x H1 => tb σ H1 fun y H2 => r x y H2 fun z H3 => ∃ k, z = .bl k ∧
  (if k = true then tc σ H3 fun w H4 => r' y w H4 fun z2 H5 => ∃ k2, z2 = .bl k2 ∧ Q k2 H5 else Q false H3)
def tCh3 (r r' r'' : R2) (ta tb tc td : TE) : TT := fun σ H Q => ta σ H fun x H1 => tb σ H1 fun y H2 => r x y H2 fun z H3 => ∃ k, z = .bl k ∧
  (if k = true then tc σ H3 fun w H4 => r' y w H4 fun z2 H5 => ∃ k2, z2 = .bl k2 ∧
    (if k2 = true then td σ H5 fun u H6 => r'' w u H6 fun z3 H7 => ∃ k3, z3 = .bl k3 ∧ Q k3 H7 else Q false H5) else Q false H3)
theorem pt_ch2 {op op' : CmpOp} {r r' : R2} {ta tb tc : TE} (ho : OpR X (compareOp op) r) (ho' : OpR X (compareOp op') r') (ha : PE X a ta) (hb : PE X b tb) (hc : PE X c tc)
    (hm : lastMarks [op, op'] [b, c] = false) : PT X (.Compare a [op, op'] [b, c] pos) (tCh2 r r' ta tb tc) := by
  refine ⟨fun pins s σ H Q I h => ?_⟩
  refine isTrue_chain (thn (ha.run pins s σ H _ I h) fun v s1 ⟨x, H1, I1, r1, q1⟩ => test_link (thn (hb.run pins s1 σ H1 _ I1 q1) fun u s2 ⟨y, H2, I2, r2, q2⟩ =>
    thn (ho pins s2 σ H2 x y v u _ I2 r1 r2 q2) fun d s3 ⟨z, H3, I3, r3, k, e, q3⟩ => ?_)) hm
  subst e
  cases r3
  refine wpAny_truthy_bool ?_
  cases k with
  | false => exact ite_ff ⟨H3, I3, q3⟩
  | true =>
    refine ite_tt (test_last (thn (hc.run pins s3 σ H3 _ I3 q3) fun w' s4 ⟨z', H4, I4, r4, q4⟩ => thn (ho' pins s4 σ H4 y z' u w' _ I4 r2 r4 q4) fun d' s5 ⟨z2, H5, I5, r5, k2, e2, q5⟩ => ?_))
    subst e2
    cases r5
    exact wpAny_truthy_bool ⟨H5, I5, q5⟩
theorem pt_ch3 {op op' op'' : CmpOp} {r r' r'' : R2} {ta tb tc td : TE} (ho : OpR X (compareOp op) r) (ho' : OpR X (compareOp op') r') (ho'' : OpR X (compareOp op'') r'') (ha : PE X a ta) (hb : PE X b tb) (hc : PE X c tc) (hd : PE X d td)
    (hm : lastMarks [op, op', op''] [b, c, d] = false) : PT X (.Compare a [op, op', op''] [b, c, d] pos) (tCh3 r r' r'' ta tb tc td) := by
  refine ⟨fun pins s σ H Q I h => ?_⟩
  refine isTrue_chain (thn (ha.run pins s σ H _ I h) fun v s1 ⟨x, H1, I1, r1, q1⟩ => test_link (thn (hb.run pins s1 σ H1 _ I1 q1) fun u s2 ⟨y, H2, I2, r2, q2⟩ =>
    thn (ho pins s2 σ H2 x y v u _ I2 r1 r2 q2) fun d s3 ⟨z, H3, I3, r3, k, e, q3⟩ => ?_)) hm
  subst e
  cases r3
  refine wpAny_truthy_bool ?_
  cases k with
  | false => exact ite_ff ⟨H3, I3, q3⟩
  | true =>
    refine ite_tt (test_link (thn (hc.run pins s3 σ H3 _ I3 q3) fun w' s4 ⟨z', H4, I4, r4, q4⟩ => thn (ho' pins s4 σ H4 y z' u w' _ I4 r2 r4 q4) fun d' s5 ⟨z2, H5, I5, r5, k2, e2, q5⟩ => ?_))
    subst e2
    cases r5
    refine wpAny_truthy_bool ?_
    cases k2 with
    | false => exact ite_ff ⟨H5, I5, q5⟩
    | true =>
      refine ite_tt (test_last (thn (hd.run pins s5 σ H5 _ I5 q5) fun w2 s6 ⟨z6, H6, I6, r6, q6⟩ => thn (ho'' pins s6 σ H6 z' z6 w' w2 _ I6 r4 r6 q6) fun d7 s7 ⟨z7, H7, I7, r7, k3, e3, q7⟩ => ?_))
      subst e3
      cases r7
      exact wpAny_truthy_bool ⟨H7, I7, q7⟩
def isB : D → Option Bool
  | .bl b => some b
  | _ => none
def xCh2 (g1 g2 : D → D → Option D) (f1 f2 f3 : FE) : FT := fun ρ => (f1 ρ).bind fun z1 => (f2 z1.2).bind fun z2 => (z1.1.rd z2.2).bind fun d1 => (z2.1.rd z2.2).bind fun d2 => (g1 d1 d2).bind fun v => (isB v).bind fun k => match k with
  | false => some (false, z2.2)
  | true => (f3 z2.2).bind fun z3 => (z2.1.rd z3.2).bind fun d2' => (z3.1.rd z3.2).bind fun d3 => (g2 d2' d3).bind fun v2 => (isB v2).bind fun k2 => some (k2, z3.2)
def xCh3 (g1 g2 g3 : D → D → Option D) (f1 f2 f3 f4 : FE) : FT := fun ρ => (f1 ρ).bind fun z1 => (f2 z1.2).bind fun z2 => (z1.1.rd z2.2).bind fun d1 => (z2.1.rd z2.2).bind fun d2 => (g1 d1 d2).bind fun v => (isB v).bind fun k => match k with
  | false => some (false, z2.2)
  | true => (f3 z2.2).bind fun z3 => (z2.1.rd z3.2).bind fun d2' => (z3.1.rd z3.2).bind fun d3 => (g2 d2' d3).bind fun v2 => (isB v2).bind fun k2 => match k2 with
    | false => some (false, z3.2)
    | true => (f4 z3.2).bind fun z4 => (z3.1.rd z4.2).bind fun d3' => (z4.1.rd z4.2).bind fun d4 => (g3 d3' d4).bind fun v3 => (isB v3).bind fun k3 => some (k3, z4.2)
theorem isB_at {v : D} {k : Bool} (h : isB v = some k) : v = .bl k := by
  cases v with
  | bl b => cases h; rfl
  | _ => cases h
theorem DT.ch2 {op op' : CmpOp} {g1 g2 : D → D → Option D} (v1 : VOp G X (compareOp op) g1) (v2 : VOp G X (compareOp op') g2) (ha : DE G X a f1) (hb : DE G X b f2) (hc : DE G X c f3) (hm : lastMarks [op, op'] [b, c] = false) :
    DT G X (.Compare a [op, op'] [b, c] pos) (xCh2 g1 g2 f1 f2 f3) := by
  obtain ⟨r, hr, k⟩ := v1.ex
  obtain ⟨r', hr', k'⟩ := v2.ex
  obtain ⟨t1, p1, q1⟩ := ha.ex
  obtain ⟨t2, p2, q2⟩ := hb.ex
  obtain ⟨t3, p3, q3⟩ := hc.ex
  refine ⟨_, pt_ch2 hr hr' p1 p2 p3 hm, fun N σ H ρ bb ρ' Q I e w => ?_⟩
  unfold xCh2 at e
  obtain ⟨⟨r1, ρ1⟩, e1, e⟩ := Option.bind_eq_some_iff.mp e
  obtain ⟨⟨r2, ρ2⟩, e2, e⟩ := Option.bind_eq_some_iff.mp e
  obtain ⟨d1, e3, e⟩ := Option.bind_eq_some_iff.mp e
  obtain ⟨d2, e4, e⟩ := Option.bind_eq_some_iff.mp e
  obtain ⟨v, e5, e⟩ := Option.bind_eq_some_iff.mp e
  obtain ⟨kb, e6, ek⟩ := Option.bind_eq_some_iff.mp e
  have e6 := isB_at e6
  subst e6
  cases kb with
  | false =>
    cases ek
    refine q1 N σ H ρ _ ρ1 _ I e1 fun x H1 g1 rx => q2 N σ H1 ρ1 _ ρ2 _ g1.env e2 fun y H2 g2 ry => ?_
    refine k _ H2 x y d1 d2 _ _ g2.env.domM ((g2.rr rx).repT g2.env e3) (ry.repT g2.env e4) e5 fun z H3 s rz => ?_
    cases rz
    have g3 := GoE.grow g2.env s
    refine ⟨_, rfl, ?_⟩
    exact w H3 ((g1.trans g2).trans g3)
  | true =>
    refine q1 N σ H ρ _ ρ1 _ I e1 fun x H1 g1 rx => q2 N σ H1 ρ1 _ ρ2 _ g1.env e2 fun y H2 g2 ry => ?_
    refine k _ H2 x y d1 d2 _ _ g2.env.domM ((g2.rr rx).repT g2.env e3) (ry.repT g2.env e4) e5 fun z H3 s rz => ?_
    cases rz
    have g3 := GoE.grow g2.env s
    refine ⟨_, rfl, ?_⟩
    dsimp only at ek
    obtain ⟨⟨r3, ρ3⟩, e7, e'⟩ := Option.bind_eq_some_iff.mp ek
    obtain ⟨d2', e8, e'⟩ := Option.bind_eq_some_iff.mp e'
    obtain ⟨d3, e9, e'⟩ := Option.bind_eq_some_iff.mp e'
    obtain ⟨v2, e10, e'⟩ := Option.bind_eq_some_iff.mp e'
    obtain ⟨kb2, e11, ek2⟩ := Option.bind_eq_some_iff.mp e'
    have e11 := isB_at e11
    subst e11
    cases ek2
    refine q3 N σ H3 ρ2 _ ρ3 _ g3.env e7 fun u H4 g4 ru => ?_
    refine k' _ H4 y u d2' d3 _ _ g4.env.domM ((g4.rr (g3.rr ry)).repT g4.env e8) (ru.repT g4.env e9) e10 fun z2 H5 s2 rz2 => ?_
    cases rz2
    exact ⟨_, rfl, w H5 ((((g1.trans g2).trans g3).trans g4).trans (GoE.grow g4.env s2))⟩
theorem DT.ch3 {op op' op'' : CmpOp} {g1 g2 g3 : D → D → Option D} (v1 : VOp G X (compareOp op) g1) (v2 : VOp G X (compareOp op') g2) (v3 : VOp G X (compareOp op'') g3) (ha : DE G X a f1) (hb : DE G X b f2) (hc : DE G X c f3) (hd : DE G X d f4)
    (hm : lastMarks [op, op', op''] [b, c, d] = false) : DT G X (.Compare a [op, op', op''] [b, c, d] pos) (xCh3 g1 g2 g3 f1 f2 f3 f4) := by
  obtain ⟨r, hr, k⟩ := v1.ex
  obtain ⟨r', hr', k'⟩ := v2.ex
  obtain ⟨r'', hr'', k''⟩ := v3.ex
  obtain ⟨t1, p1, q1⟩ := ha.ex
  obtain ⟨t2, p2, q2⟩ := hb.ex
  obtain ⟨t3, p3, q3⟩ := hc.ex
  obtain ⟨t4, p4, q4⟩ := hd.ex
  refine ⟨_, pt_ch3 hr hr' hr'' p1 p2 p3 p4 hm, fun N σ H ρ bb ρ' Q I e w => ?_⟩
  unfold xCh3 at e
  obtain ⟨⟨r1, ρ1⟩, e1, e⟩ := Option.bind_eq_some_iff.mp e
  obtain ⟨⟨r2, ρ2⟩, e2, e⟩ := Option.bind_eq_some_iff.mp e
  obtain ⟨d1, e3, e⟩ := Option.bind_eq_some_iff.mp e
  obtain ⟨d2, e4, e⟩ := Option.bind_eq_some_iff.mp e
  obtain ⟨v, e5, e⟩ := Option.bind_eq_some_iff.mp e
  obtain ⟨kb, e6, ek⟩ := Option.bind_eq_some_iff.mp e
  have e6 := isB_at e6
  subst e6
  cases kb with
  | false =>
    cases ek
    refine q1 N σ H ρ _ ρ1 _ I e1 fun x H1 g1 rx => q2 N σ H1 ρ1 _ ρ2 _ g1.env e2 fun y H2 g2 ry => ?_
    refine k _ H2 x y d1 d2 _ _ g2.env.domM ((g2.rr rx).repT g2.env e3) (ry.repT g2.env e4) e5 fun z H3 s rz => ?_
    cases rz
    have g3 := GoE.grow g2.env s
    refine ⟨_, rfl, ?_⟩
    exact w H3 ((g1.trans g2).trans g3)
  | true =>
    refine q1 N σ H ρ _ ρ1 _ I e1 fun x H1 g1 rx => q2 N σ H1 ρ1 _ ρ2 _ g1.env e2 fun y H2 g2 ry => ?_
    refine k _ H2 x y d1 d2 _ _ g2.env.domM ((g2.rr rx).repT g2.env e3) (ry.repT g2.env e4) e5 fun z H3 s rz => ?_
    cases rz
    have g3 := GoE.grow g2.env s
    refine ⟨_, rfl, ?_⟩
    dsimp only at ek
    obtain ⟨⟨r3, ρ3⟩, e7, e'⟩ := Option.bind_eq_some_iff.mp ek
    obtain ⟨d2', e8, e'⟩ := Option.bind_eq_some_iff.mp e'
    obtain ⟨d3, e9, e'⟩ := Option.bind_eq_some_iff.mp e'
    obtain ⟨v2, e10, e'⟩ := Option.bind_eq_some_iff.mp e'
    obtain ⟨kb2, e11, ek2⟩ := Option.bind_eq_some_iff.mp e'
    have e11 := isB_at e11
    subst e11
    refine q3 N σ H3 ρ2 _ ρ3 _ g3.env e7 fun u H4 g4 ru => ?_
    refine k' _ H4 y u d2' d3 _ _ g4.env.domM ((g4.rr (g3.rr ry)).repT g4.env e8) (ru.repT g4.env e9) e10 fun z2 H5 s2 rz2 => ?_
    cases rz2
    have g5 := GoE.grow g4.env s2
    refine ⟨kb2, rfl, ?_⟩
    cases kb2 with
    | false =>
      cases ek2
      exact w H5 ((((g1.trans g2).trans g3).trans g4).trans g5)
    | true =>
      dsimp only at ek2
      obtain ⟨⟨r4, ρ4⟩, e12, e'⟩ := Option.bind_eq_some_iff.mp ek2
      obtain ⟨d3', e13, e'⟩ := Option.bind_eq_some_iff.mp e'
      obtain ⟨d4, e14, e'⟩ := Option.bind_eq_some_iff.mp e'
      obtain ⟨v3, e15, e'⟩ := Option.bind_eq_some_iff.mp e'
      obtain ⟨kb3, e16, ek3⟩ := Option.bind_eq_some_iff.mp e'
      have e16 := isB_at e16
      subst e16
      cases ek3
      refine q4 N σ H5 ρ3 _ ρ4 _ g5.env e12 fun t H6 g6 rt => ?_
      refine k'' _ H6 u t d3' d4 _ _ g6.env.domM ((g6.rr (g5.rr ru)).repT g6.env e13) (rt.repT g6.env e14) e15 fun z3 H7 s3 rz3 => ?_
      cases rz3
      exact ⟨_, rfl, w H7 ((((((g1.trans g2).trans g3).trans g4).trans g5).trans g6).trans (GoE.grow g6.env s3))⟩
/-! ### xs * k -/
def rRepL (K : PySem.W.Frag) : R2 := fun x y H Q => ∃ l k xs, x = .ref l ∧ y = .int k ∧ SqL K H l xs ∧ k ≤ 1000 ∧ -1000 ≤ k ∧ xs.length ≤ 1000 ∧ ∀ p, H p = none → Q (.ref p) (upd H p (.lst (List.replicate k.toNat xs).flatten))
theorem flat_len {α : Type} (l : List α) (k : Nat) : (List.replicate k l).flatten.length = k * l.length := by
  induction k with
  | zero => simp
  | succ k ih => rw [List.replicate_succ, List.flatten_cons, List.length_append, ih, Nat.add_mul]; omega
theorem vals_rep {xs : List V} {us : List Value} (r : Vals xs us) : ∀ k : Nat, Vals (List.replicate k xs).flatten (List.replicate k us).flatten
  | 0 => .nil
  | k + 1 => by
    rw [List.replicate_succ, List.replicate_succ, List.flatten_cons, List.flatten_cons]
    exact r.append (vals_rep r k)
theorem op_repL : OpR X (binaryOp .Mult) (rRepL X.K) := by
  intro pins s σ H x y v u Q I rx ry h
  obtain ⟨l, k, xs, rfl, rfl, hL, h1, h2, hz, q⟩ := h
  cases rx
  obtain ⟨t, rfl⟩ := ry
  obtain ⟨its, r, pl, hs⟩ := I.list hL
  obtain ⟨⟨cls, dd, data, sl⟩, ho, hc, n, hd⟩ := pl.isList
  simp only at hc hd
  subst hc hd
  have hlen : its.length = xs.length := r.length.symm
  have hb : k.toNat * its.length ≤ 1000 * 1000 := Nat.mul_le_mul (by omega) (by omega)
  have hsz : its.toArray.size * k.toNat ≤ 2 ^ 24 := by rw [List.size_toArray, Nat.mul_comm]; omega
  refine wpAny_binaryOp_repeat_ref (T := "list") (U := "int") (by decide) ⟨_, ho, rfl⟩ (fun s' => typeIs_int s' k t) noFill_list_mul PySem.F.fills_int_mul PySem.F.slot_int_rmul repeat_list PySem.F.slot_int_index.lookup
    (call_meets PySem.F.slot_int_rmul (typeIs_int s k t) PySem.F.entry_int_rmul (PySem.F.args_int_rmul_2 _ _) (lm_int_rmul_list_any k t l its.toArray n dd sl)
      ⟨ho, rfl, ⟨_, ho, rfl⟩, call_meets PySem.F.slot_list_mul ⟨_, ho, rfl⟩ PySem.F.entry_list_mul (PySem.F.args_list_mul_2 _ _)
        (lm_list_mul_any l its.toArray n dd sl k t (by simp [Builtin.List.listFitsIndex]; omega) (by omega) (by simp [Builtin.List.listTooLong, sizeLine]; omega))
        ⟨ho, ?_⟩⟩)
  rw [listMul_foldl_if]
  have hfl : (List.replicate k.toNat xs).flatten.length ≤ sizeLine := by
    rw [flat_len, sizeLine_eq, ← hlen]
    omega
  exact ⟨.ref s.heap.objs.size, _, I.laid (t' := s.toks) (o := .lst (List.replicate k.toNat xs).flatten) (fun b ob q => Heap.get?_push_of_some _ q) (Nat.le_refl _) ⟨hfl, _, 0, vals_rep r k.toNat, Heap.get?_push_size _ rfl⟩, rfl, q _ (I.hok.fresh (Nat.le_refl _))⟩
noncomputable def dMulL : D → D → Option D := fun a b => match a, b with
  | .lst ds, .int k => if Grd (k ≤ 1000 ∧ -1000 ≤ k ∧ ds.length ≤ 1000) then some (.lst (List.replicate k.toNat ds).flatten) else none
  | _, _ => none
theorem RepL.rep {M : Addr → Prop} {H : Hp} {vs : List V} {ds : List D} (r : RepL G M H vs ds) : ∀ k : Nat, RepL G M H (List.replicate k vs).flatten (List.replicate k ds).flatten
  | 0 => .nil
  | k + 1 => by
    rw [List.replicate_succ, List.replicate_succ, List.flatten_cons, List.flatten_cons]
    exact r.append (RepL.rep r k)
theorem v_mulL : VOpN G X (binaryOp .Mult) dMulL := by
  refine ⟨_, op_repL, fun M H x y dx dy d Q hm rx ry e q => ?_⟩
  unfold dMulL at e
  split at e
  · split at e
    · rename_i h
      cases e
      obtain ⟨a, xs, rfl, h1, h2⟩ := rx.lst
      exact ⟨a, _, xs, rfl, ry.int, .of h1, h.1, h.2.1, by rw [h2.length]; exact h.2.2, fun p hp => q p _ (same_new hp) hp (new_lst hp (h2.rep _))⟩
    · cases e
  · cases e
/-! ### sum of a tuple of ints -/
def rSumT (K : PySem.W.Frag) : List V → Hp → VK → Prop := fun vs H Q => ∃ (a : Addr) (ns : List Int), vs = [V.ref a] ∧ SqT K H a (ns.map V.int) ∧ Q (.int ns.sum) H
theorem cr_sumT (hc : X.calm = true) : CallR X (.builtin "sum") (rSumT X.K) := by
  intro pins s σ H vs us Q I r h
  obtain ⟨a, ns, rfl, hs, q⟩ := h
  obtain ⟨its, rv, hl, _⟩ := I.tuple hs
  rw [Vals.ref1 r]
  obtain ⟨xs, e⟩ := rv.ints.allInts.items
  have hn : numsOf (intItems xs).toList = ns := by rw [← e]; exact rv.ints.numsOf
  rw [nums_intItems] at hn
  have hl : s.heap.IsTuple a its.toArray := hl
  rw [e] at hl
  have hlt : a < s.heap.objs.size := by obtain ⟨_, e, _⟩ := hl; exact Heap.lt_size e
  refine PySem.call_sum_walkG (wpAny_pyIter_tuple hl ?_)
  have hh : X.A.in1.handled = none := I.ok.hd hc
  refine ⟨_, _, _, _, _, _, numAt xs, rfl, Walks.tuple (A := X.A.in1) hh s.heap.objs.size a (Nat.ne_of_lt hlt) (intItems xs), ⟨⟨_, Heap.get?_push_size _ rfl, rfl, rfl⟩, hl.push _⟩, fun b hb => ?_, (fun _ _ => intItems_at), fun h' tk t' hk => ?_⟩
  · show b < (s.heap.push _).objs.size
    rw [Heap.size_push]
    rcases List.mem_cons.mp hb with rfl | hb
    · exact Nat.lt_succ_self _
    · rw [List.mem_singleton.mp hb]; exact Nat.lt_succ_of_lt hlt
  · have hk2 : ∀ b o, s.heap.get? b = some o → h'.get? b = some o := fun b o z => hk b o (fun w => by rw [List.mem_singleton.mp w] at z; exact absurd (Heap.lt_size z) (Nat.lt_irrefl _)) (Heap.get?_push_of_some _ z)
    have en : preSum (numAt xs) (intItems xs).size = ns.sum := by
      rw [show (intItems xs).size = xs.size by simp [intItems], preSum_eq, List.take_of_length_le (by simp), hn]
    rw [en]
    exact ⟨.int _, H, I.kept hk2, ⟨_, rfl⟩, q⟩
def dSumT : List D → Option D
  | [.tup ds] => (intsOf ds).bind fun ns => some (.int ns.sum)
  | _ => none
theorem b_sumT (hc : X.calm = true) : VCall G X (.builtin "sum") dSumT := by
  refine ⟨_, cr_sumT hc, fun M H vs ds d Q hm r e q => ?_⟩
  unfold dSumT at e
  split at e
  · obtain ⟨ns, e1, e⟩ := Option.bind_eq_some_iff.mp e
    cases e
    obtain ⟨v, rfl, rt⟩ := r.one
    obtain ⟨a, o, xs, rfl, h1, h0, h2⟩ := rt.tup
    rw [intsOf_eq e1] at h2
    rw [h2.ints_of] at h1
    exact ⟨a, ns, rfl, .inl (.inr ⟨o, h1⟩), q _ H (.refl H) (.int _)⟩
  · cases e
def dSumA : List D → Option D := orC dSum dSumT
theorem b_sumA (hc : X.calm = true) : VCall G X (.builtin "sum") dSumA := (b_sum hc).or (b_sumT hc)
end
end DL

set_option maxRecDepth 100000
namespace DL
open PySem PySem.Spec PyProof.Rows L2
/-! ### sorted(set(xs)), xs a tuple of ints -/
def insU (x : Int) : List Int → List Int
  | [] => [x]
  | y :: l => if x < y then x :: y :: l else if x = y then y :: l else y :: insU x l
def usort (ns : List Int) : List Int := ns.foldr insU []
theorem insU_mem (x z : Int) : ∀ l, z ∈ insU x l ↔ z = x ∨ z ∈ l
  | [] => by simp [insU]
  | y :: l => by
    unfold insU
    split
    · simp
    · split
      · rename_i h
        subst h
        simp
      · rw [List.mem_cons, insU_mem x z l, List.mem_cons]
        constructor
        · rintro (h | h | h)
          · exact .inr (.inl h)
          · exact .inl h
          · exact .inr (.inr h)
        · rintro (h | h | h)
          · exact .inr (.inl h)
          · exact .inl h
          · exact .inr (.inr h)
theorem insU_lt (x : Int) : ∀ l : List Int, l.Pairwise (· < ·) → (insU x l).Pairwise (· < ·)
  | [], _ => by simp [insU]
  | y :: l, h => by
    obtain ⟨h1, h2⟩ := List.pairwise_cons.mp h
    unfold insU
    split
    · rename_i hx
      refine List.pairwise_cons.mpr ⟨fun z hz => ?_, h⟩
      rcases List.mem_cons.mp hz with rfl | hz
      · exact hx
      · have := h1 z hz; omega
    · split
      · exact h
      · rename_i h3 h4
        refine List.pairwise_cons.mpr ⟨fun z hz => ?_, insU_lt x l h2⟩
        rcases (insU_mem x z l).mp hz with rfl | hz
        · omega
        · exact h1 z hz
theorem usort_mem (z : Int) : ∀ ns, z ∈ usort ns ↔ z ∈ ns
  | [] => by simp [usort]
  | x :: ns => by
    show z ∈ insU x (usort ns) ↔ _
    rw [insU_mem, usort_mem z ns, List.mem_cons]
theorem usort_lt : ∀ ns, (usort ns).Pairwise (· < ·)
  | [] => by simp [usort]
  | x :: ns => insU_lt x _ (usort_lt ns)
theorem lt_uniq : ∀ {l l' : List Int}, l.Pairwise (· < ·) → l'.Pairwise (· < ·) → (∀ z, z ∈ l ↔ z ∈ l') → l = l'
  | [], [], _, _, _ => rfl
  | [], y :: l', _, _, h => by have := (h y).mpr List.mem_cons_self; cases this
  | x :: l, [], _, _, h => by have := (h x).mp List.mem_cons_self; cases this
  | x :: l, y :: l', h1, h2, h => by
    obtain ⟨a1, a2⟩ := List.pairwise_cons.mp h1
    obtain ⟨b1, b2⟩ := List.pairwise_cons.mp h2
    have e : x = y := by
      rcases List.mem_cons.mp ((h x).mp List.mem_cons_self) with e | e
      · exact e
      · rcases List.mem_cons.mp ((h y).mpr List.mem_cons_self) with e2 | e2
        · exact e2.symm
        · have := b1 x e; have := a1 y e2; omega
    subst e
    congr 1
    refine lt_uniq a2 b2 fun z => ⟨fun hz => ?_, fun hz => ?_⟩
    · rcases List.mem_cons.mp ((h z).mp (List.mem_cons_of_mem _ hz)) with e | e
      · have := a1 z hz; omega
      · exact e
    · rcases List.mem_cons.mp ((h z).mpr (List.mem_cons_of_mem _ hz)) with e | e
      · have := b1 z hz; omega
      · exact e
def tSortSet (K : PySem.W.Frag) (ta : TE) : TE := fun σ H Q => ta σ H fun x H1 => ∃ (l : Addr) (ns : List Int), x = V.ref l ∧ SqT K H1 l (ns.map V.int) ∧ ns.length < 60 ∧ ∀ p, H1 p = none → Q (.ref p) (upd H1 p (.lst ((usort ns).map V.int)))
section
variable {G : Gx} {X : Cx} {a : Expr} {p p2 q pos : Pos} {f : FE}
theorem pe_sortSet {ta : TE} (hc : X.calm = true) (hg : Gl X "sorted") (hm : X.mg "sorted" = none) (hg2 : Gl X "set") (hm2 : X.mg "set" = none) (ha : PE X a ta)
    (na : starEach [a] X.env = (false, eval a X.env) :: starEach [] X.env) : PE X (.Call (.Name "sorted" p) [.Call (.Name "set" p2) [a] [] q] [] pos) (tSortSet X.K ta) := by
  refine ⟨fun pins s σ H Q I h => ?_⟩
  refine Call_ (ld_blt I hg hm PyProof.Rows.boot_sorted ?_)
  refine PyProof.Rows.callWith_builtin1 (PyProof.Rows.args_cons ?_ rfl) rfl rfl
  refine Call_ (ld_blt I hg2 hm2 PyProof.Rows.boot_set ?_)
  refine PyProof.Rows.callWith_type1 (PyProof.Rows.args_cons (thn (ha.run pins s σ H _ I h) fun v s1 ⟨x, H1, I1, r1, q1⟩ => PyProof.Rows.args_nil ?_) na) na rfl
  obtain ⟨l, ns, rfl, hq, h1, q1⟩ := q1
  cases r1
  obtain ⟨its, r, pl, hz⟩ := I1.tuple hq
  refine call_set_tupI ns (I1.ok.hd hc) pl (by simpa using r.ints) (by unfold scanBound; omega) fun h' tk c hS hcl hk => ?_
  refine PyProof.Rows.args_nil ?_
  have I2 : Inv X pins σ H1 { s1 with heap := h', toks := tk } := I1.kept hk
  refine sorted_set hS (I2.ok.hd hc) (by omega) fun s' p out c ms k g o hp hg hi hs hm hl => ?_
  have em : ms = usort ns := lt_uniq hs (usort_lt ns) fun z => by rw [hm z, usort_mem]; simp
  subst em
  have hlen : ((usort ns).map V.int).length ≤ sizeLine := by rw [List.length_map, hl, sizeLine_eq]; omega
  have hn : H1 p = none := I2.hok.fresh hp
  have J : Inv X pins σ (upd H1 p (.lst ((usort ns).map V.int))) { s' with heap := s'.heap, gens := s'.gens, drawn := s'.drawn, toks := s'.toks, os := s1.os } :=
    Inv.call (s := { s1 with heap := h', toks := tk }) (ch := []) I2 (Un.laid k hp hn) (I2.hok.laid k hp ⟨hlen, out.toList, c, vals_of_ints hi, hg⟩) (by rw [g]; exact I2.bare) (fun _ z => nomatch z)
  have e : s' = { s' with heap := s'.heap, gens := s'.gens, drawn := s'.drawn, toks := s'.toks, os := s1.os } := by
    cases s'
    cases o
    rfl
  rw [e]
  exact ⟨.ref p, _, J, rfl, q1 p hn⟩
noncomputable def xSortSet (f : FE) : FN := fun ρ => (f ρ).bind fun z => (z.1.rd z.2).bind fun d => match d with
  | .tup xs => (intsOf xs).bind fun ns => if Grd (ns.length < 60) then some (.lst ((usort ns).map .int), z.2) else none
  | _ => none
theorem DN.sortSet (M : NoG X.mg) (ha : DE G X a f) (hc : X.calm = true := by rfl) (hg : Gl X "sorted" := by rfl) (hg2 : Gl X "set" := by rfl)
    (na : starEach [a] X.env = (false, eval a X.env) :: starEach [] X.env := by rfl) : DN G X (.Call (.Name "sorted" p) [.Call (.Name "set" p2) [a] [] q] [] pos) (xSortSet f) := by
  obtain ⟨t, pt, qt⟩ := ha.ex
  refine ⟨_, pe_sortSet hc hg M.sorted hg2 M.set pt na, fun N σ H ρ d ρ' Q I e kk => ?_⟩
  obtain ⟨z, e1, e⟩ := Option.bind_eq_some_iff.mp e
  obtain ⟨d, e2, e⟩ := Option.bind_eq_some_iff.mp e
  split at e
  · rename_i xs
    obtain ⟨ns, e3, e⟩ := Option.bind_eq_some_iff.mp e
    split at e
    · rename_i hz
      cases e
      refine qt N σ H ρ z.1 z.2 _ I e1 fun v H1 g1 r1 => ?_
      obtain ⟨b, o, vs, rfl, h1, h0, h2⟩ := (r1.repT g1.env e2).tup
      rw [intsOf_eq e3] at h2
      rw [h2.ints_of] at h1
      refine ⟨b, ns, rfl, .inl (.inr ⟨o, h1⟩), hz, fun p hp => ?_⟩
      obtain ⟨gn, hp0⟩ := g1.newN (same_new (o := .lst ((usort ns).map V.int)) hp) hp (by rw [upd_same]; exact fun z => nomatch z)
      exact kk p _ gn hp0 (new_lst hp RepL.ints)
    · cases e
  · cases e
end
/-! ### objects of the program's classes -/
def ClsF (G : Gx) (cs : List Str) (x : Str) : Prop := ∀ c ∈ cs, Cls G.K (G.cls c) ∧ NoAttr G.K (G.cls c) x
def putA (x : Str) (d : D) : List (Str × D) → List (Str × D)
  | [] => [(x, d)]
  | (y, e) :: r => if y = x then (y, d) :: r else (y, e) :: putA x d r
section
variable {G : Gx} {M : Addr → Prop} {H : Hp}
theorem RepT.obj {v : V} {c : Str} {fs : List (Str × D)} (h : RepT G M H v (.obj c fs)) : ∃ a dx vs, v = .ref a ∧ H a = some (.ins (G.cls c) dx vs) ∧ RepF G M H vs fs := by
  rcases h with h | ⟨a, rfl, h⟩
  · cases h with
    | obj _ h2 h3 => exact ⟨_, _, _, rfl, h2, h3⟩
  · cases h with
    | obj h2 h3 => exact ⟨_, _, _, rfl, h2, h3⟩
theorem RepF.look {x : Str} {d : D} : ∀ {fs : List (Str × D)} {vs : List (Str × V)}, RepF G M H vs fs → fs.lookup x = some d → ∃ v, vs.lookup x = some v ∧ Rep G M H v d
  | _, _, .nil, e => by cases e
  | (y, d0) :: fs, (_, v0) :: vs, .cons r t, e => by
    cases h : x == y with
    | true =>
      simp only [List.lookup, h] at e ⊢
      cases e
      exact ⟨v0, rfl, r⟩
    | false =>
      simp only [List.lookup, h] at e ⊢
      exact RepF.look t e
theorem RepF.put {x : Str} {v : V} {d : D} (r : Rep G M H v d) : ∀ {fs : List (Str × D)} {vs : List (Str × V)}, RepF G M H vs fs → RepF G M H (putF x v vs) (putA x d fs)
  | _, _, .nil => .cons r .nil
  | (y, d0) :: fs, (_, v0) :: vs, .cons q t => by
    unfold putF putA
    split
    · exact .cons r t
    · exact .cons q (RepF.put r t)
theorem RepF.len : ∀ {fs : List (Str × D)} {vs : List (Str × V)}, RepF G M H vs fs → vs.length = fs.length
  | _, _, .nil => rfl
  | _, _, .cons r t => by rw [List.length_cons, List.length_cons, RepF.len t]
theorem RepF.updO {N : Addr → Prop} {σ : L2.St} {ρ : Ev} {a : Addr} {o : HO} {vs : List (Str × V)} {ds : List (Str × D)} (own : OwnS σ ρ a) (r : RepF G (MM N σ ρ) H vs ds) : RepF G (MM N σ ρ) (upd H a o) vs ds :=
  r.mono (fun c z => .inl z) fun c u e z => by rw [upd_ne (fun q => z (by rw [q]; exact .inr own))]; exact e
end
section
variable {G : Gx} {X : Cx} {e : Expr} {es : List Expr} {f : FE} {pos : Pos} {x : Str}
/-- e.x -/
def xAttr (cs : List Str) (x : Str) (f : FE) : FE := fun ρ => (f ρ).bind fun z => (z.1.rd z.2).bind fun d => match d with
  | .obj c fs => if cs.contains c then (fs.lookup x).bind fun d => some (.val d, z.2) else none
  | _ => none
theorem DE.attr {cs : List Str} (hK : G.K = X.K) (hf : ClsF G cs x) (h : DE G X e f) (hb : attributeBase e x X.env (eval e X.env) = eval e X.env := by rfl) : DE G X (.Attribute e x pos) (xAttr cs x f) := by
  obtain ⟨t, p, q⟩ := h.ex
  refine ⟨_, pe_fld p hb, fun N σ H ρ r ρ' Q I e w => ?_⟩
  obtain ⟨⟨r1, ρ1⟩, e1, e⟩ := Option.bind_eq_some_iff.mp e
  obtain ⟨d, e2, e⟩ := Option.bind_eq_some_iff.mp e
  split at e
  · rename_i c fs
    split at e
    · rename_i hc
      obtain ⟨d1, e3, e⟩ := Option.bind_eq_some_iff.mp e
      cases e
      refine q N σ H ρ _ ρ1 _ I e1 fun v H1 g r1 => ?_
      obtain ⟨a, dx, vs, rfl, h1, h2⟩ := (r1.repT g.env e2).obj
      obtain ⟨u, h3, h4⟩ := h2.look e3
      obtain ⟨k1, k2⟩ := hf c (by simpa using hc)
      exact ⟨a, _, dx, vs, u, rfl, h1, hK ▸ k1, hK ▸ k2, h3, w u H1 g h4⟩
    · cases e
  · cases e
/-- self.x = e -/
noncomputable def sFldD (cs : List Str) (i : Nat) (x : Str) (f : FE) : FS := fun ρ => if isOw ρ i then (f ρ).bind fun z => match z.1 with
  | .val d => match z.2[i]? with
    | some (.ow b (.obj c fs)) => if cs.contains c then if Grd (fs.length < 1000) then some (.nx (z.2.set i (.ow b (.obj c (putA x d fs))))) else none else none
    | _ => none
  | .own _ => none
  else none
theorem DS.fld {cs : List Str} (hK : G.K = X.K) (i : Nat) {y : Str} {p2 p' : Pos} (hf : ClsF G cs x) (h : DE G X e f) (hN : X.N[i]? = some y := by rfl) (hv : Vis X.env.scope y := by first | exact Or.inl rfl | exact Or.inr (Or.inl rfl) | exact Or.inr (Or.inr rfl)) (hd : (y == ("__debug__" : Str)) = false := by decide) (hcd : (y == ("__classdict__" : Str)) = false := by decide)
    (hs : swapsWith e (some (.Attribute (.Name y p2) x p')) pos.line X.env = pure false := by rfl) : DS G X (.Assign [.Attribute (.Name y p2) x p'] e pos) (sFldD cs i x f) := by
  obtain ⟨t, p, q⟩ := h.ex
  refine ⟨_, ps_fld (pe_var hN hv hd hcd) p hs, fun N σ H ρ o E I e w => ?_⟩
  unfold sFldD at e
  split at e
  · rename_i hw
    obtain ⟨b0, d0, h0⟩ := isOw_ex hw
    obtain ⟨a, ea, _, _⟩ := I.ow i b0 d0 h0
    obtain ⟨⟨r1, ρ1⟩, e1, e⟩ := Option.bind_eq_some_iff.mp e
    cases r1 with
    | own j => cases e
    | val d =>
      dsimp only at e
      split at e
      · rename_i b c fs hsl
        split at e
        · rename_i hc
          split at e
          · rename_i hz
            cases e
            refine q N σ H ρ _ ρ1 _ I e1 fun v H1 g rv => ⟨_, ea, ?_⟩
            have rv : Rep G _ H1 v d := rv
            obtain ⟨a2, e4, _, o⟩ := g.env.ow i b (.obj c fs) hsl
            rw [ea] at e4
            cases e4
            cases o with
            | obj h1 h2 =>
              rename_i dx vs
              have own : OwnS σ ρ1 a := ⟨i, b, .obj c fs, hsl, ea⟩
              obtain ⟨k1, k2⟩ := hf c (by simpa using hc)
              have gu := GoE.updS (d' := .obj c (putA x d fs)) (o := .ins (G.cls c) dx (putF x v vs)) g.env hsl ea (.obj upd_same ((h2.updO own).put (rv.updO own)))
              exact ⟨a, _, _, _, rfl, h1, hK ▸ k1, hK ▸ k2, by rw [h2.len]; exact hz, w σ _ (g.go.trans gu.go)⟩
          · cases e
        · cases e
      · cases e
  · cases e
/-- C(e, ..) -/
def xMake (c : Str) (m : FD) (h : FA) : FN := fun ρ => (h ρ).bind fun z => (vals z.1).bind fun ds => (m (.ow true (.obj c []) :: ds.map .imm)).bind fun y => match y.1 with
  | .non => match y.2 with
    | .ow true d :: _ => some (d, z.2)
    | _ => none
  | _ => none
theorem envM {N : Addr → Prop} {H : Hp} {p dx : Addr} {c : Str} {vs : List V} {ds : List D} (hm : DomM N H) (hp : H p = none) (hd : H dx = none) (hne : dx ≠ p) (r : RepL G N H vs ds) :
    EnvOk G N (upd (upd H dx (.own p)) p (.ins (G.cls c) dx [])) ((V.ref p :: vs).map some) (.ow true (.obj c []) :: ds.map .imm) := by
  have sm : Same H (upd (upd H dx (.own p)) p (.ins (G.cls c) dx [])) := fun b o e => by rw [upd_ne (ne_of_none e hp), upd_ne (ne_of_none e hd)]; exact e
  have hM : ∀ a, MM N ((V.ref p :: vs).map some) (.ow true (.obj c []) :: ds.map .imm) a → N a ∨ H a = none := fun a z => z.elim .inl fun z => .inr (by rw [own_one z]; exact hp)
  have nN : ¬ N p := fun z => hm p z hp
  refine ⟨by simp [r.length], fun a z => ?_, fun i d h => ?_, fun i b d h => ?_, fun i j b b' d d' a h1 h2 h3 h4 => ?_⟩
  · have := hm a z
    cases q : H a with
    | none => exact absurd q this
    | some o => rw [sm a o q]; exact fun z => nomatch z
  · cases i with
    | zero => cases h
    | succ i =>
      rw [List.getElem?_cons_succ] at h
      obtain ⟨d1, h1, e⟩ := imm_get h
      cases e
      obtain ⟨v, h2, h3⟩ := r.get h1
      exact ⟨v, by simp [h2], h3.mono hM fun a o e _ => sm a o e⟩
  · cases i with
    | zero =>
      cases h
      exact ⟨p, rfl, nN, .obj upd_same .nil⟩
    | succ i =>
      rw [List.getElem?_cons_succ] at h
      obtain ⟨d1, h1, e⟩ := imm_get h
      cases e
  · cases i with
    | zero =>
      cases j with
      | zero => rfl
      | succ j =>
        rw [List.getElem?_cons_succ] at h2
        obtain ⟨_, _, e⟩ := imm_get h2
        cases e
    | succ i =>
      rw [List.getElem?_cons_succ] at h1
      obtain ⟨_, _, e⟩ := imm_get h1
      cases e
theorem DN.make {c : Str} {C fI : Addr} {k : Nat} {fd : FuncData} {ps : List Str} {m : FD} {h : FA} {p : Pos} (hC : G.cls c = C) (K : Mk X.K C fI) (F : FnOk X.prog X.w X.K X.mg X.base CX0 k fI fd ps (spD G false m)) (hr : Room (k + 1) X.A) (hm : X.mg x = some (.ref C)) (hb : Binds X.K fd ps []) (ha : DA G X (e :: es) h)
    (hg : Gl X x := by rfl) (hd : (x == ("__debug__" : Str)) = false := by decide) (he : starEach (e :: es) X.env = (false, eval e X.env) :: starEach es X.env := by rfl) (hpl : (backTo pos (starEach es X.env)).any (·.1) = false := by rfl) :
    DN G X (.Call (.Name x p) (e :: es) [] pos) (xMake c m h) := by
  obtain ⟨t, pt, q⟩ := ha.ex
  refine ⟨_, pe_make K F hr hg hm hb .nil pass0 pt hd he hpl, fun N σ H ρ d ρ' Q I e w => ?_⟩
  obtain ⟨z, e1, e⟩ := Option.bind_eq_some_iff.mp e
  obtain ⟨ds, e2, e⟩ := Option.bind_eq_some_iff.mp e
  obtain ⟨⟨y1, y2⟩, e3, e⟩ := Option.bind_eq_some_iff.mp e
  cases y1 with
  | non =>
    dsimp only at e
    split at e
    · rename_i d0 rest
      cases e
      refine q N σ H ρ z.1 z.2 _ I e1 fun vs H1 g r1 => ?_
      have rl := r1.repL e2
      intro p dx hp hdx hne
      show spD G false m (V.ref p :: (vs ++ [])) _ _ E0
      rw [List.append_nil, ← hC]
      refine ⟨MM N σ z.2, _, _, _, envM g.env.domM hp hdx hne rl, pinned_B, e3, fun v H' g' rv => ?_⟩
      have rv : Rep G _ H' v .non := rv
      cases rv
      refine ⟨rfl, ?_⟩
      have sm : Same H1 H' := fun b o e => g'.fr b o (by rw [upd_ne (ne_of_none e hp), upd_ne (ne_of_none e hdx)]; exact e) fun z => by rw [own_one z, hp] at e; cases e
      obtain ⟨a, ea, _, o⟩ := g'.env.ow 0 true d rfl
      have : a = p := by simp at ea; exact ea.symm
      subst this
      obtain ⟨gn, hp0⟩ := g.newN sm hp o.here
      refine w a H' gn hp0 (o.mono (fun c z => .inl ?_) (fun _ _ e _ => e) rfl)
      rw [g'.mm]
      rcases z with z | z
      · exact .inl z
      · exact .inr (by rw [z]; exact ⟨0, true, _, rfl, rfl⟩)
    · cases e
  | _ => cases e
/-! ### the law's own head, classes among its text -/
def spLawD (K : PySem.W.Frag) (n : Nat) : Sp := fun vs H Q _ => ∃ (a : Addr) (ns : List Int), vs = [.ref a] ∧ ns.length ≤ n ∧ Only H ∧ SqL K H a (ns.map V.int) ∧ ∀ H', Q (.bl true) H'
theorem law_spC {K : PySem.W.Frag} {cls : Str → Addr} {m : FD} {n : Nat} (h : LawTrue m n) {H : Hp} {vs : List V} {Q : VK} {E : XK} (s : spLawD K n vs H Q E) : spD ⟨K, cls⟩ false m vs H Q E := by
  obtain ⟨a, ns, rfl, hl, ho, hs, q⟩ := s
  obtain ⟨ρ', e⟩ := h ns hl
  refine ⟨fun _ => False, [.imm (.frz (ns.map .int))], .bl true, ρ', ?_, rfl, e, fun v H' g r => ?_⟩
  · refine ⟨rfl, fun _ z => z.elim, fun i d h => ?_, fun i b d h => ?_, fun i j b b' d d' a h => ?_⟩
    · cases i with
      | zero =>
        cases h
        refine ⟨.ref a, rfl, ?_⟩
        have nM : ¬ MM (fun _ => False) [some (V.ref a)] [.imm (.frz (ns.map .int))] a := fun z => by
          rcases z with z | ⟨j, b, d, e1, _⟩
          · exact z
          · cases j with
            | zero => cases e1
            | succ j => simp at e1
        rcases hs with (hs | ⟨o, hs⟩) | hs
        · rcases ho a with z | ⟨o, xs, z⟩
          · rw [hs] at z; cases z
          · rw [hs] at z; cases z
        · exact .frz nM hs RepL.ints
        · exact .kon hs RepL.ints
      | succ i => simp at h
    · cases i with
      | zero => cases h
      | succ i => simp at h
    · cases i with
      | zero => cases h
      | succ i => simp at h
  · cases (show Rep ⟨K, cls⟩ _ H' v (.bl true) from r)
    exact q H'
end
end DL

set_option maxRecDepth 100000
namespace DL
open PySem PySem.Spec PyProof.Rows L2
/-! ### short rules, as the generator prints them -/
section
variable {G : Gx} {X : Cx} {a b c d e : Expr} {es : List Expr} {f f1 f2 f3 f4 : FE} {pos p : Pos} {x : Str} {kk : Nat} {ps : List Str} {m : FD} {h : FA}
theorem e_dget (hu : X.A.units + 65 < cLine) (ha : DE G X a f1) (hb : DE G X b f2) (hs : NoSl b := by exact fun _ _ => rfl) : DE G X (.Subscript a b pos) (xBin dGetK f1 f2) := DE.dget hu ha hb hs
theorem s_putD (hu : X.A.units + 65 < cLine) (i : Nat) {pos2 pos' : Pos} {kx value : Expr} {fk fv : FE} (h : DE G X kx fk) (h2 : DE G X value fv) (hN : X.N[i]? = some x := by rfl) (hv : Vis X.env.scope x := by first | exact Or.inl rfl | exact Or.inr (Or.inl rfl) | exact Or.inr (Or.inr rfl)) (hd : (x == ("__debug__" : Str)) = false := by decide) (hcd : (x == ("__classdict__" : Str)) = false := by decide)
    (hs : swapsWith value (some (.Subscript (.Name x pos2) kx pos')) pos.line X.env = pure false := by rfl) : DS G X (.Assign [.Subscript (.Name x pos2) kx pos'] value pos) (sPutD i fk fv) := DS.putD hu i hN hv hd hcd h h2 hs
theorem t_ch2 {op op' : CmpOp} {g1 g2 : D → D → Option D} (v1 : VOp G X (compareOp op) g1) (v2 : VOp G X (compareOp op') g2) (ha : DE G X a f1) (hb : DE G X b f2) (hc : DE G X c f3) (hm : lastMarks [op, op'] [b, c] = false := by with_unfolding_all rfl) :
    DT G X (.Compare a [op, op'] [b, c] pos) (xCh2 g1 g2 f1 f2 f3) := DT.ch2 v1 v2 ha hb hc hm
theorem t_ch3 {op op' op'' : CmpOp} {g1 g2 g3 : D → D → Option D} (v1 : VOp G X (compareOp op) g1) (v2 : VOp G X (compareOp op') g2) (v3 : VOp G X (compareOp op'') g3) (ha : DE G X a f1) (hb : DE G X b f2) (hc : DE G X c f3) (hd : DE G X d f4)
    (hm : lastMarks [op, op', op''] [b, c, d] = false := by with_unfolding_all rfl) : DT G X (.Compare a [op, op', op''] [b, c, d] pos) (xCh3 g1 g2 g3 f1 f2 f3 f4) := DT.ch3 v1 v2 v3 ha hb hc hd hm
theorem v_inDA (hu : X.A.units + 65 < cLine) : VOp G X (compareOp .In) (orF dInA dInD) := (v_in hu).or (v_inD hu)
theorem v_notInDA (hu : X.A.units + 65 < cLine) : VOp G X (compareOp .NotIn) (orF dNotInA dNotInD) := (v_notIn hu).or (v_notInD hu)
end
/-- a class whose __init__ is a def of the text, as the top has left it -/
structure Dc (K : PySem.W.Frag) (mg : Str → Option Value) (cls : Str → Addr) (x qual : Str) (st : Stmt) (ps : List Str) : Prop where
  ex : ∃ C f fd, cls x = C ∧ Mk K C f ∧ Fun K "__init__" qual st f fd ∧ mg x = some (.ref C) ∧ Binds K fd ps []
structure MakeOk (P : Program) (w : World) (K : PySem.W.Frag) (mg : Str → Option Value) (base : Heap) (G : Gx) (k : Nat) (x : Str) (ps : List Str) (m : FD) : Prop where
  ex : ∃ C f fd, G.cls x = C ∧ Mk K C f ∧ FnOk P w K mg base CX0 k f fd ps (spD G false m) ∧ mg x = some (.ref C) ∧ Binds K fd ps []
section
variable {P : Program} {w : World} {K : PySem.W.Frag} {mg : Str → Option Value} {base : Heap} {G : Gx}
theorem makeOk {x qual : Str} {st : Stmt} {Nm ps : List Str} {k : Nat} {s : FS} (F : Dc K mg G.cls x qual st ps) (S : FnScope Nm ps (defScope st)) (hNm : ps.length ≤ Nm.length)
    (body : ∀ (f : Addr) (cdv : Value) (A : Around) (outer : List Env) (sh : Shared) (H : Hp) (E : XK), Room k (A.deeper (envOfC qual (defScope st) sh.heap.objs.size f cdv)) →
      DSs G (cxOf CX0 P w K mg base Nm qual (defScope st) f cdv A outer sh H E).nox (defBody st) s) :
    MakeOk P w K mg base G (k + 1) x ps (fnD false ps.length (Nm.length - ps.length) s) := by
  obtain ⟨C, f, fd, h0, h1, h2, h3, h4⟩ := F.ex
  exact ⟨C, f, fd, h0, h1, fnD_ok h2 S hNm (body f), h3, h4⟩
theorem Dc.mk' {x qual : Str} {st : Stmt} {ps : List Str} {C f : Addr} {fd : FuncData} {cls : Str → Addr} (h0 : cls x = C) (M : Mk K C f) (F : Fun K "__init__" qual st f fd) (m : mg x = some (.ref C)) (b : Binds K fd ps []) : Dc K mg cls x qual st ps := ⟨C, f, fd, h0, M, F, m, b⟩
end
section
variable {G : Gx} {X : Cx} {e : Expr} {es : List Expr} {pos p : Pos} {x : Str} {kk : Nat} {ps : List Str} {m : FD} {h : FA}
theorem n_make (C : MakeOk X.prog X.w X.K X.mg X.base G kk x ps m) (hr : Room (kk + 1) X.A) (ha : DA G X (e :: es) h) (hg : Gl X x := by rfl) (hd : (x == ("__debug__" : Str)) = false := by decide)
    (he : starEach (e :: es) X.env = (false, eval e X.env) :: starEach es X.env := by rfl) (hpl : (backTo pos (starEach es X.env)).any (·.1) = false := by rfl) :
    DN G X (.Call (.Name x p) (e :: es) [] pos) (xMake x m h) := by
  obtain ⟨C, f, fd, h0, h1, h2, h3, h4⟩ := C.ex
  exact DN.make h0 h1 h2 hr h3 h4 ha hg hd he hpl
end
end DL

set_option maxRecDepth 100000
namespace DL
open PySem PySem.Spec PyProof.Rows L2
/-! ### typed readings, II: lists by their places -/
theorem grd {p : Prop} (h : p) : Grd p = True := eq_true h
theorem grdN {n : Nat} (h : n ≤ 100000) : Grd (n ≤ sizeLine) = True := grd (by rw [sizeLine_eq]; omega)
theorem grdS {n : Nat} (h : n ≤ 100000) : Grd (n < sizeLine) = True := grd (by rw [sizeLine_eq]; omega)
theorem beq_nat (a b : Nat) : ((a : Int) == (b : Int)) = (a == b) := by
  by_cases h : a = b
  · subst h; simp
  · rw [beq_eq_false_iff_ne.mpr h, beq_eq_false_iff_ne.mpr (by omega)]
theorem okRg_nat {n : Nat} (h : n ≤ 16777216) : okRg 0 (n : Int) = true := by
  have := RgOk.of_le (a := 0) (b := (n : Int)) (by omega) (by omega) (by omega) (by omega)
  unfold okRg
  exact decide_eq_true this
theorem iRg1_nat {f : FE} {ρ ρ' : Ev} {n : Nat} (h : f ρ = some (.val (.int n), ρ')) (hn : n ≤ 16777216) : iRg1 f ρ = some (((List.range n).map nD, none), ρ') := by
  unfold iRg1
  rw [h]
  show (if Grd (-(2 ^ 62) ≤ (n : Int) ∧ (n : Int) < 2 ^ 62) then some ((rgD 0 (n : Int).toNat, none), ρ') else none) = _
  rw [if_pos (show Grd (-(2 ^ 62) ≤ (n : Int) ∧ (n : Int) < 2 ^ 62) from (by omega : -(2 ^ 62) ≤ (n : Int) ∧ (n : Int) < 2 ^ 62)), Int.toNat_natCast, rgD_nat]
theorem iVal_wr {ρ : Ev} {i : Nat} {wr : List D → D} (hw : wr = .lst ∨ wr = .tup) {ds : List D} (h : ρ[i]? = some (.imm (wr ds))) : iVal (xName i) ρ = some ((ds, none), ρ) := by
  unfold iVal xName
  rw [h]
  rcases hw with rfl | rfl <;> rfl
theorem dPlus_int (a b : Int) : dPlus (.int a) (.int b) = some (.int (a + b)) := rfl
theorem dAdd_int (a b : Int) : dAdd (.int a) (.int b) = some (.int (a + b)) := rfl
theorem dSub_int (a b : Int) : dSub (.int a) (.int b) = some (.int (a - b)) := rfl
theorem dLt_int (a b : Int) : dLt (.int a) (.int b) = some (.bl (decide (a < b))) := rfl
theorem dLe_int (a b : Int) : dLe (.int a) (.int b) = some (.bl (decide (a ≤ b))) := rfl
theorem dGt_int (a b : Int) : dGt (.int a) (.int b) = some (.bl (decide (b < a))) := rfl
theorem dGe_int (a b : Int) : dGe (.int a) (.int b) = some (.bl (decide (b ≤ a))) := rfl
theorem dIx_0 (p : Nat × Nat) : dIx (pD p) (.int 0) = some (.int p.1) := rfl
theorem dIx_1 (p : Nat × Nat) : dIx (pD p) (.int 1) = some (.int p.2) := rfl
theorem dMin2_nat (a b : Nat) : dMin2 [.int a, .int b] = some (nD (min a b)) := by
  simp only [dMin2, nD]
  congr 2
  split <;> omega
theorem dMax2_nat (a b : Nat) : dMax2 [.int a, .int b] = some (nD (max a b)) := by
  simp only [dMax2, nD]
  congr 2
  split <;> omega
theorem filterMap_if {α : Type} (c : α → Bool) (e : α → D) : ∀ l : List α, l.filterMap (fun x => if c x = true then some (e x) else none) = (l.filter c).map e
  | [] => rfl
  | x :: l => by
    rw [List.filterMap_cons]
    cases h : c x with
    | true => simp [h, filterMap_if c e l]
    | false => simp [h, filterMap_if c e l]
theorem filt_none {α : Type} (o : α → Option D) : ∀ xs : List α, (∀ x ∈ xs, o x = none) → xs.filterMap o = []
  | [], _ => rfl
  | x :: xs, h => by
    rw [List.filterMap_cons, h x List.mem_cons_self]
    exact filt_none o xs fun y hy => h y (List.mem_cons_of_mem _ hy)
theorem sSeq_nx {s1 s2 : FS} {ρ ρ1 : Ev} (h : s1 ρ = some (.nx ρ1)) : sSeq s1 s2 ρ = s2 ρ1 := by
  unfold sSeq
  rw [h]
  rfl
theorem sSeq_rt {s1 s2 : FS} {ρ ρ1 : Ev} {d : D} {b : Bool} (h : s1 ρ = some (.rt d b ρ1)) : sSeq s1 s2 ρ = some (.rt d b ρ1) := by
  unfold sSeq
  rw [h]
  rfl
theorem step {s1 s2 : FS} {ρ : Ev} (ρ1 : Ev) {o : Option Out} (h : s1 ρ = some (.nx ρ1)) (h2 : s2 ρ1 = o) : sSeq s1 s2 ρ = o := (sSeq_nx h).trans h2
/-- a list by its places -/
def tn (m : Nat) (f : Nat → D) : List D := (List.range m).map f
theorem tn_len (m : Nat) (f : Nat → D) : (tn m f).length = m := by simp [tn]
theorem tn_congr {m : Nat} {f g : Nat → D} (h : ∀ k, k < m → f k = g k) : tn m f = tn m g := List.map_congr_left fun k hk => h k (List.mem_range.mp hk)
theorem tn_get {m : Nat} (f : Nat → D) {k : Nat} (h : k < m) : (tn m f)[k]? = some (f k) := by simp [tn, h]
theorem tn_at {m : Nat} (f : Nat → D) {k : Nat} (h : k < m) : atI (tn m f) (k : Int) = some (f k) := by rw [atI_nat', tn_get f h]
theorem ixT {m : Nat} (f : Nat → D) {k : Nat} (h : k < m) : dIx (.tup (tn m f)) (.int k) = some (f k) := tn_at f h
theorem ixL {m : Nat} (f : Nat → D) {k : Nat} (h : k < m) : dIx (.lst (tn m f)) (.int k) = some (f k) := tn_at f h
theorem ixW {wr : List D → D} (hw : wr = .lst ∨ wr = .tup) {m : Nat} (f : Nat → D) {k : Nat} (h : k < m) : dIx (wr (tn m f)) (.int k) = some (f k) := by
  rcases hw with rfl | rfl
  · exact ixL f h
  · exact ixT f h
theorem tn_set (m : Nat) (f : Nat → D) (i : Nat) (x : D) : (tn m f).set i x = tn m fun k => if k = i then x else f k := by
  unfold tn
  apply List.ext_getElem?
  intro j
  by_cases hj : j < m
  · by_cases e : i = j
    · subst e
      rw [List.getElem?_set_self (by simpa using hj)]
      simp [hj]
    · rw [List.getElem?_set_ne e]
      simp [hj, Ne.symm e]
  · rw [List.getElem?_eq_none (by simp; omega), List.getElem?_eq_none (by simp; omega)]
theorem lenT (m : Nat) (f : Nat → D) : dLen [.tup (tn m f)] = some (.int m) := by simp [dLen, tn_len]
theorem lenL (m : Nat) (f : Nat → D) : dLen [.lst (tn m f)] = some (.int m) := by simp [dLen, tn_len]
theorem lenW {wr : List D → D} (hw : wr = .lst ∨ wr = .tup) (m : Nat) (f : Nat → D) : dLen [wr (tn m f)] = some (.int m) := by
  rcases hw with rfl | rfl
  · exact lenL m f
  · exact lenT m f
theorem map_tn {l : List Nat} : l.map nD = tn l.length fun k => nD (l.getD k 0) := by
  apply List.ext_getElem?
  intro j
  by_cases hj : j < l.length
  · rw [tn_get _ hj, List.getElem?_map, List.getElem?_eq_getElem hj, List.getD_eq_getElem?_getD, List.getElem?_eq_getElem hj]
    rfl
  · rw [List.getElem?_eq_none (by simp; omega), List.getElem?_eq_none (by rw [tn_len]; omega)]
theorem tn_ints (n : Nat) (f : Nat → Int) : intsOf (tn n fun v => .int (f v)) = some ((List.range n).map f) := by
  have := intsOf_map ((List.range n).map f)
  rw [List.map_map] at this
  exact this
theorem intsOf_nat (l : List Nat) : intsOf (l.map nD) = some (l.map fun x : Nat => (x : Int)) := by
  have := intsOf_map (l.map fun x : Nat => (x : Int))
  rw [List.map_map] at this
  exact this
theorem fltL_of {n : Nat} : ∀ {l : List D}, (∀ x ∈ l, x.flt n = true) → fltL n l = true
  | [], _ => by simp [fltL]
  | x :: l, h => by simp [fltL, h x List.mem_cons_self, fltL_of fun y hy => h y (List.mem_cons_of_mem _ hy)]
theorem flt_nats (n : Nat) (l : List Nat) : fltL n (l.map nD) = true := fltL_of fun x hx => by
  obtain ⟨a, _, rfl⟩ := List.mem_map.mp hx
  exact flt_int n a
theorem flt_tnI (n m : Nat) (f : Nat → Int) : fltL n (tn m fun v => .int (f v)) = true := fltL_of fun x hx => by
  obtain ⟨a, _, rfl⟩ := List.mem_map.mp hx
  exact flt_int n _
theorem any_eqv (v : Nat) : ∀ K : List Nat, ((pyL (K.map nD)).any fun z => PyData.eqv z (D.int v).py) = decide (v ∈ K)
  | [] => by simp [pyL]
  | x :: K => by
    have ih := any_eqv v K
    simp only [List.map_cons, pyL, List.any_cons, ih]
    simp only [nD, D.py, PyData.eqv, beq_nat]
    by_cases e : x = v
    · subst e; simp
    · have e2 : ¬ v = x := fun z => e z.symm
      simp [e, e2]
theorem okD_nat (K : List Nat) (v : Nat) : okD (K.map nD) (.int v) = true := by
  unfold okD
  rw [flt_nats, flt_int]
  rfl
theorem inL (v : Nat) (K : List Nat) : dInA (.int v) (.lst (K.map nD)) = some (.bl (decide (v ∈ K))) := by
  unfold dInA orF dIn
  simp only [flt_int, flt_nats, and_self, if_true, any_eqv]
theorem inT (v : Nat) (K : List Nat) : dInA (.int v) (.tup (K.map nD)) = some (.bl (decide (v ∈ K))) := by
  have h1 : dIn (.int v) (.tup (K.map nD)) = none := rfl
  unfold dInA orF
  rw [h1]
  unfold dInT
  simp only [okD_nat, if_true, any_eqv]
theorem notInL (v : Nat) (K : List Nat) : dNotInA (.int v) (.lst (K.map nD)) = some (.bl (!decide (v ∈ K))) := by
  unfold dNotInA orF dNotIn
  simp only [flt_int, flt_nats, and_self, if_true, any_eqv]
theorem inP (v : Nat) (p : Nat × Nat) : dInA (.int v) (pD p) = some (.bl (decide (v = p.1 ∨ v = p.2))) := by
  have := inT v [p.1, p.2]
  simp only [List.map_cons, List.map_nil, nD] at this
  unfold pD
  rw [this]
  simp
theorem inU (v a b : Nat) : dInA (.int v) (.tup [.int a, .int b]) = some (.bl (decide (v = a ∨ v = b))) := inP v (a, b)
theorem eqvI (a b : Int) : PyData.eqv (D.int a).py (D.int b).py = (a == b) := by simp only [D.py, PyData.eqv]
theorem eqvAll_tn {f g : Nat → Int} : ∀ l : List Nat, PyData.eqvAll (pyL (l.map fun v => .int (f v))) (pyL (l.map fun v => .int (g v))) = l.all fun v => f v == g v
  | [] => by simp [pyL, PyData.eqvAll]
  | x :: l => by simp only [List.map_cons, pyL, PyData.eqvAll, eqvAll_tn l, eqvI, List.all_cons]
def sameN (n : Nat) (f g : Nat → Int) : Bool := (List.range n).all fun v => f v == g v
theorem sameN_iff {n : Nat} {f g : Nat → Int} : sameN n f g = true ↔ ∀ v, v < n → f v = g v := by
  unfold sameN
  rw [List.all_eq_true]
  exact ⟨fun h v hv => eq_of_beq (h v (List.mem_range.mpr hv)), fun h v hv => beq_iff_eq.mpr (h v (List.mem_range.mp hv))⟩
theorem flt_tupI (n m : Nat) (f : Nat → Int) : (D.tup (tn m fun v => .int (f v))).flt (n + 1) = true := by simp [D.flt, flt_tnI]
theorem dNe_tn (n : Nat) (f g : Nat → Int) : dNe (.tup (tn n fun v => .int (f v))) (.tup (tn n fun v => .int (g v))) = some (.bl (!sameN n f g)) := by
  unfold dNe
  rw [if_pos ⟨flt_tupI 59 n f, flt_tupI 59 n g⟩]
  simp only [D.py, PyData.eqv, tn, eqvAll_tn]
  rfl
theorem dEq_tn (n : Nat) (f g : Nat → Int) : dEq (.tup (tn n fun v => .int (f v))) (.tup (tn n fun v => .int (g v))) = some (.bl (sameN n f g)) := by
  unfold dEq
  rw [if_pos ⟨flt_tupI 59 n f, flt_tupI 59 n g⟩]
  simp only [D.py, PyData.eqv, tn, eqvAll_tn]
  rfl
theorem eqvAll_ints : ∀ a b : List Int, PyData.eqvAll (pyL (a.map .int)) (pyL (b.map .int)) = (a == b)
  | [], [] => by simp [pyL, PyData.eqvAll]
  | [], y :: b => by simp [pyL, PyData.eqvAll]
  | x :: a, [] => by simp [pyL, PyData.eqvAll]
  | x :: a, y :: b => by
    simp only [List.map_cons, pyL, PyData.eqvAll, eqvAll_ints a b, eqvI]
    rfl
theorem flt_intL (n : Nat) (l : List Int) : (D.lst (l.map .int)).flt (n + 1) = true := by simp [D.flt, fltL_ints]
theorem dNe_ints (a b : List Int) : dNe (.lst (a.map .int)) (.lst (b.map .int)) = some (.bl (!(a == b))) := by
  unfold dNe
  rw [if_pos ⟨flt_intL 59 a, flt_intL 59 b⟩]
  simp only [D.py, PyData.eqv, eqvAll_ints]
theorem nats_ints (l : List Nat) : l.map nD = (l.map fun x : Nat => (x : Int)).map .int := by rw [List.map_map]; rfl
theorem dNe_nats (a b : List Nat) : dNe (.lst (a.map nD)) (.lst (b.map nD)) = some (.bl (!(a == b))) := by
  rw [nats_ints, nats_ints, dNe_ints]
  congr 3
  have inj : ∀ a b : List Nat, ((a.map fun x : Nat => (x : Int)) == b.map fun x : Nat => (x : Int)) = (a == b) := by
    intro a
    induction a with
    | nil => intro b; cases b <;> rfl
    | cons x a ih =>
      intro b
      cases b with
      | nil => rfl
      | cons y b =>
        rw [List.map_cons, List.map_cons, List.cons_beq_cons, List.cons_beq_cons, ih b, beq_nat]
  exact inj a b
theorem dEq_bool (a b : Bool) : dEq (.bl a) (.bl b) = some (.bl (a == b)) := by cases a <;> cases b <;> rfl
theorem dNe_bool (a b : Bool) : dNe (.bl a) (.bl b) = some (.bl (!(a == b))) := by cases a <;> cases b <;> rfl
/-! dicts by int keys -/
theorem valK_map {α : Type} (key : α → Nat) (g : α → D) (v : Nat) : ∀ Q : List α, valK (Q.map fun x => ((.inl (key x : Int) : Key), g x)) (.inl (v : Int)) = (Q.find? fun x => key x == v).map g
  | [] => rfl
  | x :: Q => by
    have ih := valK_map key g v Q
    unfold valK at ih ⊢
    rw [List.map_cons, List.find?_cons, List.find?_cons]
    by_cases e : key x = v
    · have e2 : ((.inl (key x : Int) : Key) = .inl (v : Int)) := by rw [e]
      simp only [e2, decide_true, e, beq_self_eq_true]
      rfl
    · have e2 : ¬ ((.inl (key x : Int) : Key) = .inl (v : Int)) := fun z => e (by cases z; omega)
      simp only [decide_eq_false e2, beq_eq_false_iff_ne.mpr e]
      exact ih
theorem putKD_new {kvs : List (Key × D)} {k : Key} {d : D} (h : valK kvs k = none) : putKD kvs k d = kvs ++ [(k, d)] := by
  unfold putKD
  rw [if_neg]
  intro z
  unfold valK at h
  rw [Option.map_eq_none_iff, List.find?_eq_none] at h
  obtain ⟨x, hx, e⟩ := List.any_eq_true.mp z
  exact h x hx e
/-! a comprehension whose turns are only known to exist, each with its own item -/
theorem lcL_exR {α β σ : Type} {vs : List Nat} {all : List D} {g : FG} {k : FT} {f : FE} (enc : α → D) (out : β → D) (R : σ → Ev) (P : σ → Prop) (Q : α → β → Prop) : ∀ (xs : List α) (s0 : σ) (acc : List D), (∀ x ∈ xs, ∀ s, P s → ∃ s' b, P s' ∧ Q x b ∧ turnC vs g k f (enc x) (R s) = some (some (out b), R s')) → acc.length + xs.length ≤ sizeLine → P s0 →
    ∃ (s' : σ) (bs : List β), P s' ∧ (∀ z ∈ xs.zip bs, Q z.1 z.2) ∧ bs.length = xs.length ∧ lcL vs none all g k f (xs.map enc) (R s0) acc = some (acc ++ bs.map out, R s')
  | [], s0, acc, _, _, h0 => ⟨s0, [], h0, (fun b hb => by cases hb), rfl, by simp [lcL]⟩
  | x :: xs, s0, acc, h, hl, h0 => by
    obtain ⟨s1, b, h1, hb, e⟩ := h x List.mem_cons_self s0 h0
    rw [List.length_cons] at hl
    unfold turnC at e
    obtain ⟨ρ1, e1, e⟩ := Option.bind_eq_some_iff.mp e
    obtain ⟨⟨c, ρ2⟩, e2, e⟩ := Option.bind_eq_some_iff.mp e
    obtain ⟨s', bs, i1, i2, i3, i4⟩ := lcL_exR (vs := vs) (all := all) (g := g) (k := k) (f := f) enc out R P Q xs s1 (acc ++ [out b]) (fun y hy => h y (List.mem_cons_of_mem _ hy)) (by rw [List.length_append, List.length_singleton]; omega) h1
    refine ⟨s', b :: bs, i1, fun y hy => ?_, by simp [i3], ?_⟩
    · rw [List.zip_cons_cons] at hy
      rcases List.mem_cons.mp hy with rfl | hy
      · exact hb
      · exact i2 y hy
    · show (g (enc x) (R s0)).bind _ = _
      rw [e1]
      show (k ρ1).bind _ = _
      rw [e2]
      cases c with
      | false =>
        dsimp only at e
        cases (Prod.mk.inj (Option.some.inj e)).1
      | true =>
        dsimp only at e
        obtain ⟨⟨r, ρ3⟩, e5, e⟩ := Option.bind_eq_some_iff.mp e
        show (f ρ2).bind _ = _
        rw [e5]
        cases r with
        | own i => cases e
        | val d =>
          dsimp only at e
          obtain ⟨e3, e4⟩ := Prod.mk.inj (Option.some.inj e)
          cases e3
          show (if Grd (acc.length < sizeLine ∧ lcL.stableL none all (wipeE ρ3 vs) = true) then lcL vs none all g k f (xs.map enc) (wipeE ρ3 vs) (acc ++ [out b]) else none) = _
          rw [e4, if_pos (show Grd (acc.length < sizeLine ∧ lcL.stableL none all (R s1) = true) from ⟨by omega, rfl⟩), i4]
          simp
theorem xLc_exR {α β σ : Type} {fi : FI} {vs : List Nat} {g : FG} {k : FT} {f : FE} (enc : α → D) (out : β → D) (R : σ → Ev) (P : σ → Prop) (Q : α → β → Prop) (xs : List α) (s0 : σ) (hfi : fi (R s0) = some ((xs.map enc, none), R s0)) (no : noOwn (R s0) vs = true) (hl : xs.length ≤ sizeLine) (hw : ∀ s, wipeE (R s) vs = R s)
    (hr : ∀ s s', rst (R s) (R s') vs = R s') (h0 : P s0) (h : ∀ x ∈ xs, ∀ s, P s → ∃ s' b, P s' ∧ Q x b ∧ turnC vs g k f (enc x) (R s) = some (some (out b), R s')) :
    ∃ (s' : σ) (bs : List β), P s' ∧ (∀ z ∈ xs.zip bs, Q z.1 z.2) ∧ bs.length = xs.length ∧ xLc fi vs g k f (R s0) = some (.lst (bs.map out), R s') := by
  obtain ⟨s', bs, i1, i2, i3, i4⟩ := lcL_exR (vs := vs) (all := xs.map enc) (g := g) (k := k) (f := f) enc out R P Q xs s0 [] h (by simpa using hl) h0
  refine ⟨s', bs, i1, i2, i3, ?_⟩
  unfold xLc
  rw [hfi]
  show (if noOwn (R s0) vs then _ else none) = _
  rw [if_pos no]
  show (lcL vs none (xs.map enc) g k f (xs.map enc) (wipeE (R s0) vs) []).bind _ = _
  rw [hw, i4]
  show some (D.lst ([] ++ bs.map out), rst (R s0) (R s') vs) = _
  rw [hr, List.nil_append]
/-! while loops by their turns -/
theorem while_end {tmp : List Nat} {k : FT} {s : FS} {ρ ρ' : Ev} (n : Nat) (h : k ρ = some (false, ρ')) : sWhile tmp k s (n + 1) ρ = some (.nx ρ') := by
  rw [sWhile]
  show (k ρ).bind _ = _
  rw [h]
  rfl
theorem while_go {tmp : List Nat} {k : FT} {s : FS} {ρ ρ1 ρ2 : Ev} (n : Nat) (h : k ρ = some (true, ρ1)) (h2 : s ρ1 = some (.nx ρ2)) : sWhile tmp k s (n + 1) ρ = sWhile tmp k s n (wps tmp ρ2) := by
  rw [sWhile]
  show (k ρ).bind _ = _
  rw [h]
  show (s ρ1).bind _ = _
  rw [h2]
  rfl
theorem while_rt {tmp : List Nat} {k : FT} {s : FS} {ρ ρ1 ρ2 : Ev} {d : D} {b : Bool} (n : Nat) (h : k ρ = some (true, ρ1)) (h2 : s ρ1 = some (.rt d b ρ2)) : sWhile tmp k s (n + 1) ρ = some (.rt d b ρ2) := by
  rw [sWhile]
  show (k ρ).bind _ = _
  rw [h]
  show (s ρ1).bind _ = _
  rw [h2]
  rfl
end DL

set_option maxRecDepth 100000
set_option maxHeartbeats 4000000
namespace K59
open PySem PySem.Spec PyProof.Rows L2 DL
def topS (i : Nat) : Stmt := PySem.Challenge.pw_basewright_k59_whole_rows_of_scores.main.body.getD i (.Pass ⟨0, 0, 0, 0⟩)
theorem sc_graph_breach : FnScope ["vertices", "edges", "k", "one", "other"] ["vertices", "edges"] (defScope (topS 5)) := ⟨rfl, rfl, rfl, by decide +kernel, rfl, by decide +kernel, by decide +kernel⟩
theorem sc_scores : FnScope ["graph", "heads", "found", "k"] ["graph", "heads"] (defScope (topS 8)) := ⟨rfl, rfl, rfl, by decide +kernel, rfl, by decide +kernel, by decide +kernel⟩
theorem sc_turned_path : FnScope ["graph", "heads", "first", "last", "ways", "left", "here", "k", "u", "v", "found"] ["graph", "heads", "first", "last"] (defScope (topS 9)) := ⟨rfl, rfl, rfl, by decide +kernel, rfl, by decide +kernel, by decide +kernel⟩
theorem sc_led_to : FnScope ["graph", "heads", "first", "found", "at", "here", "k", "u", "v"] ["graph", "heads", "first"] (defScope (topS 11)) := ⟨rfl, rfl, rfl, by decide +kernel, rfl, by decide +kernel, by decide +kernel⟩
theorem sc_directed : FnScope ["graph", "row", "heads", "told", "first", "known", "lasts", "u", "v"] ["graph", "row"] (defScope (topS 10)) := ⟨rfl, rfl, rfl, by decide +kernel, rfl, by decide +kernel, by decide +kernel⟩
theorem sc__law_start : FnScope ["script"] ["script"] (defScope (topS 13)) := ⟨rfl, rfl, rfl, by decide +kernel, rfl, by decide +kernel, by decide +kernel⟩
theorem sc__law_pick : FnScope ["state", "limit", "cell", "drawn"] ["state", "limit"] (defScope (topS 14)) := ⟨rfl, rfl, rfl, by decide +kernel, rfl, by decide +kernel, by decide +kernel⟩
theorem sc__law_same : FnScope ["told", "due", "k"] ["told", "due"] (defScope (topS 15)) := ⟨rfl, rfl, rfl, by decide +kernel, rfl, by decide +kernel, by decide +kernel⟩
theorem sc__law_graph : FnScope ["state", "most", "many", "vertices", "edges", "k", "one", "other"] ["state", "most", "many"] (defScope (topS 16)) := ⟨rfl, rfl, rfl, by decide +kernel, rfl, by decide +kernel, by decide +kernel⟩
theorem sc__law_sets : FnScope ["size", "level", "found", "many", "later", "one", "low", "element"] ["size"] (defScope (topS 19)) := ⟨rfl, rfl, rfl, by decide +kernel, rfl, by decide +kernel, by decide +kernel⟩
theorem sc__law_scores : FnScope ["vertices", "edges", "heads", "tails", "k", "v", "one"] ["vertices", "edges", "heads"] (defScope (topS 20)) := ⟨rfl, rfl, rfl, by decide +kernel, rfl, by decide +kernel, by decide +kernel⟩
theorem sc__law_far : FnScope ["edges", "heads", "first", "far", "left", "at", "k", "tail"] ["edges", "heads", "first"] (defScope (topS 21)) := ⟨rfl, rfl, rfl, by decide +kernel, rfl, by decide +kernel, by decide +kernel⟩
theorem sc_Graphic__init : FnScope ["self", "vertices", "edges"] ["self", "vertices", "edges"] (defScope (L2.inClass (topS 6) 0)) := ⟨rfl, rfl, rfl, by decide +kernel, rfl, by decide +kernel, by decide +kernel⟩
theorem sc__law_judged : FnScope ["vertices", "edges", "row", "told", "right", "here", "k", "a", "b", "v"] ["vertices", "edges", "row"] (defScope (topS 22)) := ⟨rfl, rfl, rfl, by decide +kernel, rfl, by decide +kernel, by decide +kernel⟩
theorem sc__law_drawn : FnScope ["state", "edges", "edge"] ["state", "edges"] (defScope (topS 23)) := ⟨rfl, rfl, rfl, by decide +kernel, rfl, by decide +kernel, by decide +kernel⟩
theorem sc__law_bent : FnScope ["state", "row", "turn", "one", "other"] ["state", "row"] (defScope (topS 24)) := ⟨rfl, rfl, rfl, by decide +kernel, rfl, by decide +kernel, by decide +kernel⟩
theorem sc_law : FnScope ["script", "state", "vertices", "edges", "graph", "turn", "row", "right", "some", "here", "heads", "first", "last", "far", "told", "due", "wide", "long", "whole", "a", "b", "v", "k"] ["script"] (defScope (topS 25)) := ⟨rfl, rfl, rfl, by decide +kernel, rfl, by decide +kernel, by decide +kernel⟩
noncomputable def B_graph_breach_1 : FS := (sSeq (sAsg (xBin dIx (xName 1) (xName 2)) (gTupD 2 (gsCons (gSet 3) (gsCons (gSet 4) gsNil)))) (sIf (xNot (xCh3 dLe dLe dLt (xC (.int 0)) (xName 3) (xName 4) (xName 0))) (sRet (xName 2)) sNil))
noncomputable def L_graph_breach_1 : FS := (sFor [2, 3, 4] (iRg1 (xCall dLen (aCons (xName 1) aNil))) (gSet 2) B_graph_breach_1)
noncomputable def b_graph_breach : FS := (sSeq L_graph_breach_1 (sRet (xC .non)))
noncomputable def m_graph_breach : FD := fnD false 2 3 b_graph_breach
noncomputable def B_scores_1 : FS := (sAugL 2 (xBin dSub (xBin dPlus (xBin dIx (xBin dIx (xAttr ["Graphic"] "edges" (xName 0)) (xName 3)) (xC (.int 0))) (xBin dIx (xBin dIx (xAttr ["Graphic"] "edges" (xName 0)) (xName 3)) (xC (.int 1)))) (xBin dIx (xName 1) (xName 3))) dAdd (xC (.int 1)))
noncomputable def L_scores_1 : FS := (sFor [3] (iRg1 (xAttr ["Graphic"] "size" (xName 0))) (gSet 3) B_scores_1)
noncomputable def b_scores : FS := (sSeq (sSetN 2 (xBinN dMulL (xNew (xLst (aCons (xC (.int 0)) aNil))) (xAttr ["Graphic"] "vertices" (xName 0)))) (sSeq L_scores_1 (sRet (xCall dTupOf (aCons (xName 2) aNil)))))
noncomputable def m_scores : FD := fnD false 2 2 b_scores
noncomputable def B_turned_path_1 : FS := (sSeq (sAsg (xBin dIx (xAttr ["Graphic"] "edges" (xName 0)) (xName 7)) (gTupD 2 (gsCons (gSet 8) (gsCons (gSet 9) gsNil)))) (sIf (xAndT (xBinT dInA (xName 6) (xTup (aCons (xName 8) (aCons (xName 9) aNil)))) (xAndT (xBinT dEq (xBin dIx (xName 1) (xName 7)) (xBin dSub (xBin dPlus (xName 8) (xName 9)) (xName 6))) (xBinT dNotInD (xBin dIx (xName 1) (xName 7)) (xName 4)))) (sSeq (sPutD 4 (xBin dIx (xName 1) (xName 7)) (xTup (aCons (xName 6) (aCons (xName 7) aNil)))) (sDrop (xMut 5 gApp (aCons (xBin dIx (xName 1) (xName 7)) aNil)))) sNil))
noncomputable def L_turned_path_1 : FS := (sFor [8, 9] (iRg1 (xAttr ["Graphic"] "size" (xName 0))) (gSet 7) B_turned_path_1)
noncomputable def B_turned_path_2 : FS := (sSeq (sSet 6 (xMut 5 gPopAt (aCons (xC (.int 0)) aNil))) L_turned_path_1)
noncomputable def K_turned_path_1 : FT := (xAndT (xBinT dGt (xCall dLen (aCons (xName 5) aNil)) (xC (.int 0))) (xBinT dNotInD (xName 3) (xName 4)))
noncomputable def L_turned_path_2 : FS := (sWhile [6, 8, 9] K_turned_path_1 B_turned_path_2 40)
noncomputable def B_turned_path_3 : FS := (sSeq (sAsg (xBin dGetK (xName 4) (xName 3)) (gTupD 2 (gsCons (gSet 3) (gsCons (gSet 7) gsNil)))) (sAsg (xName 3) (gSubL 10 (xName 7))))
noncomputable def K_turned_path_2 : FT := (xBinT dIsNot (xBin dGetK (xName 4) (xName 3)) (xC .non))
noncomputable def L_turned_path_3 : FS := (sWhile [7] K_turned_path_2 B_turned_path_3 40)
noncomputable def b_turned_path : FS := (sSeq (sSetN 4 (xDct1 (xName 2) (xC .non))) (sSeq (sSetN 5 (xLst (aCons (xName 2) aNil))) (sSeq L_turned_path_2 (sSeq (sIf (xBinT dNotInD (xName 3) (xName 4)) (sRet (xC .non)) sNil) (sSeq (sSetN 10 (xCallN dListOf (aCons (xName 1) aNil))) (sSeq L_turned_path_3 (sRet (xName 10))))))))
noncomputable def m_turned_path : FD := fnD false 4 7 b_turned_path
noncomputable def B_led_to_1 : FS := (sSeq (sAsg (xBin dIx (xAttr ["Graphic"] "edges" (xName 0)) (xName 6)) (gTupD 2 (gsCons (gSet 7) (gsCons (gSet 8) gsNil)))) (sIf (xAndT (xBinT dInA (xName 5) (xTup (aCons (xName 7) (aCons (xName 8) aNil)))) (xAndT (xBinT dEq (xBin dIx (xName 1) (xName 6)) (xBin dSub (xBin dPlus (xName 7) (xName 8)) (xName 5))) (xBinT dNotInA (xBin dIx (xName 1) (xName 6)) (xName 3)))) (sDrop (xMut 3 gApp (aCons (xBin dIx (xName 1) (xName 6)) aNil))) sNil))
noncomputable def L_led_to_1 : FS := (sFor [6, 7, 8] (iRg1 (xAttr ["Graphic"] "size" (xName 0))) (gSet 6) B_led_to_1)
noncomputable def B_led_to_2 : FS := (sSeq (sSet 5 (xBin dIx (xName 3) (xName 4))) (sSeq L_led_to_1 (sAug 4 dAdd (xC (.int 1)))))
noncomputable def K_led_to_1 : FT := (xBinT dLt (xName 4) (xCall dLen (aCons (xName 3) aNil)))
noncomputable def L_led_to_2 : FS := (sWhile [5, 6, 7, 8] K_led_to_1 B_led_to_2 40)
noncomputable def b_led_to : FS := (sSeq (sSetN 3 (xLst (aCons (xName 2) aNil))) (sSeq (sSet 4 (xC (.int 0))) (sSeq L_led_to_2 (sRet (xName 3)))))
noncomputable def m_led_to : FD := fnD false 3 6 b_led_to
noncomputable def E_directed_1 : FE := (xName 8)
noncomputable def X_directed_1 : FN := (xLc (iVal (xAttr ["Graphic"] "edges" (xName 0))) [7, 8] (gTupD 2 (gsCons (gSet 7) (gsCons (gSet 8) gsNil))) kYes E_directed_1)
noncomputable def E_directed_2 : FE := (xName 8)
noncomputable def K_directed_1 : FT := (xBinT dGt (xBin dIx (xName 3) (xName 8)) (xBin dIx (xName 1) (xName 8)))
noncomputable def X_directed_2 : FN := (xLc (iRg1 (xAttr ["Graphic"] "vertices" (xName 0))) [8] (gSet 8) K_directed_1 E_directed_2)
noncomputable def E_directed_3 : FE := (xName 8)
noncomputable def K_directed_2 : FT := (xBinT dLt (xBin dIx (xName 3) (xName 8)) (xBin dIx (xName 1) (xName 8)))
noncomputable def X_directed_3 : FN := (xLc (iVal (xName 5)) [8] (gSet 8) K_directed_2 E_directed_3)
noncomputable def B_directed_1 : FS := (sSeq (sSet 4 (xBin dIx (xNew X_directed_2) (xC (.int 0)))) (sSeq (sSet 5 (xCallV m_led_to (aCons (xName 0) (aCons (xName 2) (aCons (xName 4) aNil))))) (sSeq (sSet 6 (xNew X_directed_3)) (sSeq (sIf (xBinT dEq (xCall dLen (aCons (xName 6) aNil)) (xC (.int 0))) (sRet (xTup (aCons (xC (.str "no")) (aCons (xCall dTupOf (aCons (xNew (xCallN dSort (aCons (xName 5) aNil))) aNil)) aNil)))) sNil) (sSeq (sSet 2 (xCallV m_turned_path (aCons (xName 0) (aCons (xName 2) (aCons (xName 4) (aCons (xBin dIx (xName 6) (xC (.int 0))) aNil)))))) (sSet 3 (xCallV m_scores (aCons (xName 0) (aCons (xName 2) aNil)))))))))
noncomputable def K_directed_3 : FT := (xBinT dNe (xName 3) (xCall dTupOf (aCons (xName 1) aNil)))
noncomputable def L_directed_1 : FS := (sWhile [4, 5, 6] K_directed_3 B_directed_1 400)
noncomputable def b_directed : FS := (sSeq (sIf (xBinT dNe (xCall dSumA (aCons (xName 1) aNil)) (xAttr ["Graphic"] "size" (xName 0))) (sRet (xTup (aCons (xC (.str "no")) (aCons (xC .non) aNil)))) sNil) (sSeq (sSet 2 (xNew X_directed_1)) (sSeq (sSet 3 (xCallV m_scores (aCons (xName 0) (aCons (xName 2) aNil)))) (sSeq L_directed_1 (sRet (xTup (aCons (xC (.str "yes")) (aCons (xCall dTupOf (aCons (xName 2) aNil)) aNil))))))))
noncomputable def m_directed : FD := fnD false 2 7 b_directed
noncomputable def b__law_start : FS := (sRetN (xLst (aCons (xName 0) (aCons (xC (.int 0)) (aCons (xC (.int 0)) (aCons (xC (.int 7)) aNil))))))
noncomputable def m__law_start : FD := fnD true 1 0 b__law_start
noncomputable def b__law_pick : FS := (sSeq (sIf (xAndT (xBinT dEq (xBin dIx (xName 0) (xC (.int 2))) (xC (.int 0))) (xBinT dLt (xBin dIx (xName 0) (xC (.int 1))) (xCall dLen (aCons (xBin dIx (xName 0) (xC (.int 0))) aNil)))) (sSeq (sSet 2 (xCall dAbs (aCons (xBin dIx (xBin dIx (xName 0) (xC (.int 0))) (xBin dIx (xName 0) (xC (.int 1)))) aNil))) (sSeq (sAsg (xBin dPlus (xBin dIx (xName 0) (xC (.int 1))) (xC (.int 1))) (gSubL 0 (xC (.int 1)))) (sIf (xBinT dGe (xName 2) (xBin dPow (xC (.int 10)) (xC (.int 18)))) (sAsg (xName 2) (gSubL 0 (xC (.int 2)))) (sAsg (xBin dPlus (xBin dMod (xCall dInt (aCons (xBin dPlus (xBin dMul (xBin dIx (xName 0) (xC (.int 3))) (xC (.int 48271))) (xName 2)) aNil)) (xC (.int 2147483646))) (xC (.int 1))) (gSubL 0 (xC (.int 3))))))) sNil) (sSeq (sIf (xBinT dGt (xBin dIx (xName 0) (xC (.int 2))) (xC (.int 0))) (sSeq (sSet 3 (xBin dMod (xCall dInt (aCons (xBin dIx (xName 0) (xC (.int 2))) aNil)) (xName 1))) (sSeq (sAsg (xBin dDiv (xBin dIx (xName 0) (xC (.int 2))) (xName 1)) (gSubL 0 (xC (.int 2)))) (sRet (xName 3)))) sNil) (sSeq (sAsg (xBin dMod (xCall dInt (aCons (xBin dMul (xBin dIx (xName 0) (xC (.int 3))) (xC (.int 48271))) aNil)) (xC (.int 2147483647))) (gSubL 0 (xC (.int 3)))) (sRet (xBin dMod (xCall dInt (aCons (xBin dPlus (xBin dDiv (xBin dIx (xName 0) (xC (.int 3))) (xC (.int 5))) (xBin dMod (xCall dInt (aCons (xBin dMul (xBin dIx (xName 0) (xC (.int 3))) (xBin dIx (xName 0) (xC (.int 3)))) aNil)) (xC (.int 2147483629)))) aNil)) (xName 1))))))
noncomputable def m__law_pick : FD := fnD false 2 2 b__law_pick
noncomputable def E__law_same_1 (mrec : FD) : FE := (xC (.int 1))
noncomputable def K__law_same_1 (mrec : FD) : FT := (xNot (xTru (xCallV mrec (aCons (xBin dIx (xName 0) (xName 2)) (aCons (xBin dIx (xName 1) (xName 2)) aNil)))))
noncomputable def X__law_same_1 (mrec : FD) : FN := (xLc (iRg1 (xCall dLen (aCons (xName 1) aNil))) [2] (gSet 2) (K__law_same_1 mrec) (E__law_same_1 mrec))
noncomputable def b__law_same (mrec : FD) : FS := (sSeq (sIf (xBinT dIs (xName 1) (xC .non)) (sRet (xBin dIs (xName 0) (xC .non))) sNil) (sSeq (sIf (xTru (xIsi "bool" (xName 1))) (sRet (xAnd (xIsi "bool" (xName 0)) (xBin dEq (xName 0) (xName 1)))) sNil) (sSeq (sIf (xTru (xIsi "int" (xName 1))) (sRet (xAnd (xIsi "int" (xName 0)) (xAnd (xNotV (xIsi "bool" (xName 0))) (xBin dEq (xName 0) (xName 1))))) sNil) (sSeq (sIf (xTru (xIsi "str" (xName 1))) (sRet (xAnd (xIsi "str" (xName 0)) (xBin dEq (xName 0) (xName 1)))) sNil) (sSeq (sIf (xOrT (xAndT (xTru (xIsi "list" (xName 1))) (xNot (xTru (xIsi "list" (xName 0))))) (xAndT (xTru (xIsi "tuple" (xName 1))) (xNot (xTru (xIsi "tuple" (xName 0)))))) (sRet (xC (.bl false))) sNil) (sRet (xAnd (xBin dEq (xCall dLen (aCons (xName 0) aNil)) (xCall dLen (aCons (xName 1) aNil))) (xBin dEq (xNew (X__law_same_1 mrec)) (xNew (xLst aNil))))))))))
noncomputable def m__law_same : Nat → FD
  | 0 => fun _ => none
  | n + 1 => fnD false 2 1 (b__law_same (m__law_same n))
noncomputable def B__law_graph_1 : FS := (sSeq (sSet 6 (xCallB m__law_pick (aCons (xName 0) (aCons (xName 3) aNil)))) (sSeq (sSet 7 (xCallB m__law_pick (aCons (xName 0) (aCons (xName 3) aNil)))) (sSeq (sIf (xAndT (xBinT dEq (xName 6) (xName 7)) (xBinT dGt (xCallB m__law_pick (aCons (xName 0) (aCons (xC (.int 3)) aNil))) (xC (.int 0)))) (sSet 7 (xBin dMod (xCall dInt (aCons (xBin dPlus (xName 6) (xC (.int 1))) aNil)) (xName 3))) sNil) (sDrop (xMut 4 gApp (aCons (xTup (aCons (xCall dMin2 (aCons (xName 6) (aCons (xName 7) aNil))) (aCons (xCall dMax2 (aCons (xName 6) (aCons (xName 7) aNil))) aNil))) aNil))))))
noncomputable def L__law_graph_1 : FS := (sFor [5, 6, 7] (iRg1 (xCallB m__law_pick (aCons (xName 0) (aCons (xBin dPlus (xName 2) (xC (.int 1))) aNil)))) (gSet 5) B__law_graph_1)
noncomputable def b__law_graph : FS := (sSeq (sSet 3 (xBin dPlus (xC (.int 1)) (xCallB m__law_pick (aCons (xName 0) (aCons (xName 1) aNil))))) (sSeq (sSetN 4 (xLst aNil)) (sSeq L__law_graph_1 (sRet (xTup (aCons (xName 3) (aCons (xCall dTupOf (aCons (xName 4) aNil)) aNil)))))))
noncomputable def m__law_graph : FD := fnD false 3 5 b__law_graph
noncomputable def E__law_sets_1 : FE := (xBin dPlus (xName 5) (xTup (aCons (xName 7) aNil)))
noncomputable def X__law_sets_1 : FN := (xLc (iRg2 (xName 6) (xName 0)) [7] (gSet 7) kYes E__law_sets_1)
noncomputable def B__law_sets_1 : FS := (sSeq (sSet 6 (xC (.int 0))) (sSeq (sIf (xBinT dNe (xName 5) (xTup aNil)) (sSet 6 (xBin dPlus (xBin dIx (xName 5) (xNeg (xC (.int 1)))) (xC (.int 1)))) sNil) (sSet 4 (xBin dPlus (xName 4) (xNew X__law_sets_1)))))
noncomputable def L__law_sets_1 : FS := (sFor [5, 6] (iVal (xName 1)) (gSet 5) B__law_sets_1)
noncomputable def B__law_sets_2 : FS := (sSeq (sSet 4 (xNew (xLst aNil))) (sSeq L__law_sets_1 (sSeq (sSet 1 (xName 4)) (sSet 2 (xBin dPlus (xName 2) (xName 1))))))
noncomputable def L__law_sets_2 : FS := (sFor [3, 4, 5, 6] (iRg1 (xName 0)) (gSet 3) B__law_sets_2)
noncomputable def b__law_sets : FS := (sSeq (sSet 1 (xNew (xLst (aCons (xTup aNil) aNil)))) (sSeq (sSet 2 (xNew (xLst (aCons (xTup aNil) aNil)))) (sSeq L__law_sets_2 (sRet (xName 2)))))
noncomputable def m__law_sets : FD := fnD false 1 7 b__law_sets
noncomputable def E__law_scores_1 : FE := (xBin dSub (xBin dPlus (xBin dIx (xBin dIx (xName 1) (xName 4)) (xC (.int 0))) (xBin dIx (xBin dIx (xName 1) (xName 4)) (xC (.int 1)))) (xBin dIx (xName 2) (xName 4)))
noncomputable def X__law_scores_1 : FN := (xLc (iRg1 (xCall dLen (aCons (xName 1) aNil))) [4] (gSet 4) kYes E__law_scores_1)
noncomputable def E__law_scores_2 : FE := (xC (.int 1))
noncomputable def K__law_scores_1 : FT := (xBinT dEq (xName 6) (xName 5))
noncomputable def X__law_scores_2 : FN := (xLc (iVal (xName 3)) [6] (gSet 6) K__law_scores_1 E__law_scores_2)
noncomputable def E__law_scores_3 : FE := (xCall dLen (aCons (xNew X__law_scores_2) aNil))
noncomputable def X__law_scores_3 : FN := (xLc (iRg1 (xName 0)) [5] (gSet 5) kYes E__law_scores_3)
noncomputable def b__law_scores : FS := (sSeq (sSet 3 (xNew X__law_scores_1)) (sRet (xCall dTupOf (aCons (xNew X__law_scores_3) aNil))))
noncomputable def m__law_scores : FD := fnD false 3 4 b__law_scores
noncomputable def B__law_far_1 : FS := (sSeq (sSet 7 (xBin dSub (xBin dPlus (xBin dIx (xBin dIx (xName 0) (xName 6)) (xC (.int 0))) (xBin dIx (xBin dIx (xName 0) (xName 6)) (xC (.int 1)))) (xBin dIx (xName 1) (xName 6)))) (sIf (xAndT (xBinT dEq (xName 7) (xBin dIx (xName 4) (xName 5))) (xBinT dNotInD (xBin dIx (xName 1) (xName 6)) (xName 3))) (sSeq (sPutD 3 (xBin dIx (xName 1) (xName 6)) (xBin dPlus (xBin dGetK (xName 3) (xName 7)) (xC (.int 1)))) (sDrop (xMut 4 gApp (aCons (xBin dIx (xName 1) (xName 6)) aNil)))) sNil))
noncomputable def L__law_far_1 : FS := (sFor [6, 7] (iRg1 (xCall dLen (aCons (xName 0) aNil))) (gSet 6) B__law_far_1)
noncomputable def B__law_far_2 : FS := (sSeq L__law_far_1 (sSet 5 (xBin dPlus (xName 5) (xC (.int 1)))))
noncomputable def K__law_far_1 : FT := (xBinT dLt (xName 5) (xCall dLen (aCons (xName 4) aNil)))
noncomputable def L__law_far_2 : FS := (sWhile [6, 7] K__law_far_1 B__law_far_2 40)
noncomputable def b__law_far : FS := (sSeq (sSetN 3 (xDct1 (xName 2) (xC (.int 0)))) (sSeq (sSetN 4 (xLst (aCons (xName 2) aNil))) (sSeq (sSet 5 (xC (.int 0))) (sSeq L__law_far_2 (sRet (xName 3))))))
noncomputable def m__law_far : FD := fnD false 3 5 b__law_far
noncomputable def b_Graphic__init : FS := (sSeq (sIf (xBinT dIsNot (xCallV m_graph_breach (aCons (xName 1) (aCons (xName 2) aNil))) (xC .non)) sNever sNil) (sSeq (sFldD ["Graphic"] 0 "size" (xCall dLen (aCons (xName 2) aNil))) (sSeq (sFldD ["Graphic"] 0 "vertices" (xName 1)) (sFldD ["Graphic"] 0 "edges" (xCall dTupOf (aCons (xName 2) aNil))))))
noncomputable def m_Graphic__init : FD := fnD false 3 0 b_Graphic__init
noncomputable def E__law_judged_1 : FE := (xC (.int 1))
noncomputable def K__law_judged_1 : FT := (xBinT dNotInA (xBin dIx (xBin dIx (xName 3) (xC (.int 1))) (xName 6)) (xBin dIx (xName 1) (xName 6)))
noncomputable def X__law_judged_1 : FN := (xLc (iRg1 (xCall dLen (aCons (xName 1) aNil))) [6] (gSet 6) K__law_judged_1 E__law_judged_1)
noncomputable def E__law_judged_2 : FE := (xC (.int 1))
noncomputable def K__law_judged_2 : FT := (xAndT (xBinT dInA (xName 7) (xBin dIx (xName 3) (xC (.int 1)))) (xBinT dInA (xName 8) (xBin dIx (xName 3) (xC (.int 1)))))
noncomputable def X__law_judged_2 : FN := (xLc (iVal (xName 1)) [7, 8] (gTupD 2 (gsCons (gSet 7) (gsCons (gSet 8) gsNil))) K__law_judged_2 E__law_judged_2)
noncomputable def E__law_judged_3 : FE := (xBin dIx (xName 2) (xName 9))
noncomputable def X__law_judged_3 : FN := (xLc (iVal (xBin dIx (xName 3) (xC (.int 1)))) [9] (gSet 9) kYes E__law_judged_3)
noncomputable def b__law_judged : FS := (sSeq (sSet 3 (xCallV m_directed (aCons (xNew (xMake "Graphic" m_Graphic__init (aCons (xName 0) (aCons (xName 1) aNil)))) (aCons (xName 2) aNil)))) (sSeq (sIf (xOrT (xNot (xTru (xIsi "tuple" (xName 3)))) (xBinT dNe (xCall dLen (aCons (xName 3) aNil)) (xC (.int 2)))) (sRet (xC .non)) sNil) (sSeq (sIf (xBinT dEq (xBin dIx (xName 3) (xC (.int 0))) (xC (.str "yes"))) (sSeq (sSet 4 (xAnd (xIsi "tuple" (xBin dIx (xName 3) (xC (.int 1)))) (xBin dEq (xCall dLen (aCons (xBin dIx (xName 3) (xC (.int 1))) aNil)) (xCall dLen (aCons (xName 1) aNil))))) (sSeq (sSet 4 (xAnd (xName 4) (xBin dEq (xNew X__law_judged_1) (xNew (xLst aNil))))) (sRet (xAnd (xName 4) (xBin dEq (xCallV m__law_scores (aCons (xName 0) (aCons (xName 1) (aCons (xBin dIx (xName 3) (xC (.int 1))) aNil)))) (xCall dTupOf (aCons (xName 2) aNil))))))) sNil) (sSeq (sIf (xBinT dNe (xBin dIx (xName 3) (xC (.int 0))) (xC (.str "no"))) (sRet (xC .non)) sNil) (sSeq (sIf (xBinT dNe (xCall dSumA (aCons (xName 2) aNil)) (xCall dLen (aCons (xName 1) aNil))) (sRet (xBin dIs (xBin dIx (xName 3) (xC (.int 1))) (xC .non))) sNil) (sSeq (sIf (xOrT (xNot (xTru (xIsi "tuple" (xBin dIx (xName 3) (xC (.int 1)))))) (xBinT dNe (xNew (xCallN dListOf (aCons (xBin dIx (xName 3) (xC (.int 1))) aNil))) (xNew (xSortSet (xBin dIx (xName 3) (xC (.int 1))))))) (sRet (xC .non)) sNil) (sSeq (sSet 5 (xCall dLen (aCons (xNew X__law_judged_2) aNil))) (sRet (xBin dGt (xName 5) (xCall dSumA (aCons (xNew X__law_judged_3) aNil)))))))))))
noncomputable def m__law_judged : FD := fnD false 3 7 b__law_judged
noncomputable def E__law_drawn_1 : FE := (xBin dIx (xName 2) (xCallB m__law_pick (aCons (xName 0) (aCons (xC (.int 2)) aNil))))
noncomputable def X__law_drawn_1 : FN := (xLc (iVal (xName 1)) [2] (gSet 2) kYes E__law_drawn_1)
noncomputable def b__law_drawn : FS := (sRet (xCall dTupOf (aCons (xNew X__law_drawn_1) aNil)))
noncomputable def m__law_drawn : FD := fnD false 2 1 b__law_drawn
noncomputable def B__law_bent_1 : FS := (sSeq (sSet 3 (xCallB m__law_pick (aCons (xName 0) (aCons (xCall dLen (aCons (xName 1) aNil)) aNil)))) (sSeq (sSet 4 (xCallB m__law_pick (aCons (xName 0) (aCons (xCall dLen (aCons (xName 1) aNil)) aNil)))) (sSeq (sAsg (xBin dPlus (xBin dIx (xName 1) (xName 3)) (xC (.int 1))) (gSubL 1 (xName 3))) (sAsg (xBin dSub (xBin dIx (xName 1) (xName 4)) (xC (.int 1))) (gSubL 1 (xName 4))))))
noncomputable def L__law_bent_1 : FS := (sFor [2, 3, 4] (iRg1 (xCallB m__law_pick (aCons (xName 0) (aCons (xC (.int 3)) aNil)))) (gSet 2) B__law_bent_1)
noncomputable def b__law_bent : FS := (sSeq (sSetN 1 (xCallN dListOf (aCons (xName 1) aNil))) (sSeq L__law_bent_1 (sSeq (sIf (xBinT dEq (xCallB m__law_pick (aCons (xName 0) (aCons (xC (.int 6)) aNil))) (xC (.int 0))) (sAsg (xBin dPlus (xBin dIx (xName 1) (xC (.int 0))) (xC (.int 1))) (gSubL 1 (xC (.int 0)))) sNil) (sRet (xCall dTupOf (aCons (xName 1) aNil))))))
noncomputable def m__law_bent : FD := fnD false 2 3 b__law_bent
noncomputable def E_law_1 : FE := (xC (.int 1))
noncomputable def K_law_1 : FT := (xAndT (xBinT dInA (xName 19) (xName 8)) (xBinT dInA (xName 20) (xName 8)))
noncomputable def X_law_1 : FN := (xLc (iVal (xName 3)) [19, 20] (gTupD 2 (gsCons (gSet 19) (gsCons (gSet 20) gsNil))) K_law_1 E_law_1)
noncomputable def E_law_2 : FE := (xBin dIx (xName 6) (xName 21))
noncomputable def X_law_2 : FN := (xLc (iVal (xName 8)) [21] (gSet 21) kYes E_law_2)
noncomputable def B_law_1 : FS := (sSeq (sSet 9 (xCall dLen (aCons (xNew X_law_1) aNil))) (sSet 7 (xAnd (xName 7) (xBin dLe (xName 9) (xCall dSumA (aCons (xNew X_law_2) aNil))))))
noncomputable def L_law_1 : FS := (sFor [8, 9] (iVal (xCallV m__law_sets (aCons (xName 2) aNil))) (gSet 8) B_law_1)
noncomputable def B_law_2 : FS := (sSeq (sSet 6 (xCallB m__law_bent (aCons (xName 1) (aCons (xCallV m__law_scores (aCons (xName 2) (aCons (xName 3) (aCons (xCallB m__law_drawn (aCons (xName 1) (aCons (xName 3) aNil))) aNil)))) aNil)))) (sSeq (sSet 7 (xBin dEq (xCall dSumA (aCons (xName 6) aNil)) (xCall dLen (aCons (xName 3) aNil)))) (sSeq L_law_1 (sIf (xOrT (xBinT dIsNot (xCallV m__law_judged (aCons (xName 2) (aCons (xName 3) (aCons (xName 6) aNil)))) (xC (.bl true))) (xBinT dNe (xBin dEq (xBin dIx (xCallV m_directed (aCons (xName 4) (aCons (xName 6) aNil))) (xC (.int 0))) (xC (.str "yes"))) (xName 7))) (sRet (xC (.bl false))) sNil))))
noncomputable def L_law_2 : FS := (sFor [5, 6, 7, 8, 9] (iRg1 (xC (.int 4))) (gSet 5) B_law_2)
noncomputable def E_law_3 : FE := (xC (.int 1))
noncomputable def K_law_2 : FT := (xBinT dNe (xBin dIx (xName 14) (xName 22)) (xBin dIx (xName 10) (xName 22)))
noncomputable def X_law_3 : FN := (xLc (iRg1 (xCall dLen (aCons (xName 3) aNil))) [22] (gSet 22) K_law_2 E_law_3)
noncomputable def b_law : FS := (sSeq (sSetN 1 (xCallVN m__law_start (aCons (xName 0) aNil))) (sSeq (sAsg (xCallB m__law_graph (aCons (xName 1) (aCons (xC (.int 5)) (aCons (xC (.int 7)) aNil)))) (gTupD 2 (gsCons (gSet 2) (gsCons (gSet 3) gsNil)))) (sSeq (sSet 4 (xNew (xMake "Graphic" m_Graphic__init (aCons (xName 2) (aCons (xName 3) aNil))))) (sSeq L_law_2 (sSeq (sSet 10 (xCallB m__law_drawn (aCons (xName 1) (aCons (xName 3) aNil)))) (sSeq (sIf (xNot (xTru (xCallV (m__law_same 5) (aCons (xCallV m_scores (aCons (xName 4) (aCons (xName 10) aNil))) (aCons (xCallV m__law_scores (aCons (xName 2) (aCons (xName 3) (aCons (xName 10) aNil)))) aNil))))) (sRet (xC (.bl false))) sNil) (sSeq (sSet 11 (xCallB m__law_pick (aCons (xName 1) (aCons (xName 2) aNil)))) (sSeq (sSet 12 (xCallB m__law_pick (aCons (xName 1) (aCons (xName 2) aNil)))) (sSeq (sSet 13 (xCallV m__law_far (aCons (xName 3) (aCons (xName 10) (aCons (xName 11) aNil))))) (sSeq (sIf (xBinT dNe (xNew (xCallN dSort (aCons (xCallV m_led_to (aCons (xName 4) (aCons (xName 10) (aCons (xName 11) aNil)))) aNil))) (xNew (xCallN dSort (aCons (xNew (xCallN dListD (aCons (xName 13) aNil))) aNil)))) (sRet (xC (.bl false))) sNil) (sSeq (sSet 14 (xCallV m_turned_path (aCons (xName 4) (aCons (xNew (xCallN dListOf (aCons (xName 10) aNil))) (aCons (xName 11) (aCons (xName 12) aNil)))))) (sSeq (sIf (xBinT dNe (xBin dIs (xName 14) (xC .non)) (xBin dNotInD (xName 12) (xName 13))) (sRet (xC (.bl false))) sNil) (sSeq (sIf (xBinT dIsNot (xName 14) (xC .non)) (sSeq (sIf (xBinT dNe (xCall dLen (aCons (xNew X_law_3) aNil)) (xBin dGetK (xName 13) (xName 12))) (sRet (xC (.bl false))) sNil) (sSeq (sSetN 15 (xCallN dListOf (aCons (xCallV m__law_scores (aCons (xName 2) (aCons (xName 3) (aCons (xName 10) aNil)))) aNil))) (sSeq (sAsg (xBin dSub (xBin dIx (xName 15) (xName 11)) (xCall dInt (aCons (xBin dNe (xName 11) (xName 12)) aNil))) (gSubL 15 (xName 11))) (sSeq (sAsg (xBin dPlus (xBin dIx (xName 15) (xName 12)) (xCall dInt (aCons (xBin dNe (xName 11) (xName 12)) aNil))) (gSubL 15 (xName 12))) (sIf (xOrT (xBinT dNe (xCallV m__law_scores (aCons (xName 2) (aCons (xName 3) (aCons (xName 14) aNil)))) (xCall dTupOf (aCons (xName 15) aNil))) (xBinT dNotInD (xName 12) (xCallV m__law_far (aCons (xName 3) (aCons (xName 10) (aCons (xName 11) aNil)))))) (sRet (xC (.bl false))) sNil))))) sNil) (sSeq (sAsg (xCallB m__law_graph (aCons (xName 1) (aCons (xC (.int 12)) (aCons (xC (.int 30)) aNil)))) (gTupD 2 (gsCons (gSet 16) (gsCons (gSet 17) gsNil)))) (sSeq (sSet 18 (xCallV m__law_scores (aCons (xName 16) (aCons (xName 17) (aCons (xCallB m__law_drawn (aCons (xName 1) (aCons (xName 17) aNil))) aNil))))) (sSeq (sIf (xOrT (xBinT dNe (xBin dIx (xCallV m_directed (aCons (xNew (xMake "Graphic" m_Graphic__init (aCons (xName 16) (aCons (xName 17) aNil)))) (aCons (xName 18) aNil))) (xC (.int 0))) (xC (.str "yes"))) (xBinT dIsNot (xCallV m__law_judged (aCons (xName 16) (aCons (xName 17) (aCons (xName 18) aNil)))) (xC (.bl true)))) (sRet (xC (.bl false))) sNil) (sRet (xBin dIs (xCallV m__law_judged (aCons (xName 16) (aCons (xName 17) (aCons (xCallB m__law_bent (aCons (xName 1) (aCons (xName 18) aNil))) aNil)))) (xC (.bl true))))))))))))))))))))
noncomputable def m_law : FD := fnD false 1 22 b_law
end K59

set_option maxRecDepth 100000
set_option maxHeartbeats 4000000
namespace K59
open PySem PySem.Spec PyProof.Rows L2 DL
section
variable {P : Program} {w : World} {K : PySem.W.Frag} {mg : Str → Option Value} {base : Heap} {cls : Str → Addr}
theorem ok_graph_breach (M : NoG mg) (F : Df K mg "graph_breach" (topS 5) ["vertices", "edges"]) : CallOk P w K mg base ⟨K, cls⟩ 1 "graph_breach" ["vertices", "edges"] false m_graph_breach := by
  have S := sc_graph_breach
  refine callOk F sc_graph_breach (by decide) fun fa cdv A outer sh H E hr => ?_
  exact (show DSs _ _ _ b_graph_breach from (DSs.cons (s_for [2, 3, 4] (i_r1 M (e_cb (b_len rfl) M.len PySem.boot_len (a_cons (e_nm 1) DA.nil))) (g_nm 2 S.nd) (DSs.cons (s_asg (e_ix (e_nm 1) (e_nm 2)) (g_tup (W := [3, 4]) (gs_cons (g_nm 3 S.nd) (gs_cons (g_nm 4 S.nd) DGs.nil)))) (DSs.one (DS.ite (DT.not (t_ch3 v_le v_le v_lt DE.int (e_nm 3) (e_nm 4) (e_nm 0))) (DSs.one (DS.ret (e_nm 2))) DSs.nil)))) (DSs.one (DS.ret DE.non))))
theorem ok_scores (M : NoG mg) (F : Df K mg "scores" (topS 8) ["graph", "heads"]) (A_edges : ClsF ⟨K, cls⟩ ["Graphic"] "edges") (A_size : ClsF ⟨K, cls⟩ ["Graphic"] "size") (A_vertices : ClsF ⟨K, cls⟩ ["Graphic"] "vertices") : CallOk P w K mg base ⟨K, cls⟩ 1 "scores" ["graph", "heads"] false m_scores := by
  have S := sc_scores
  refine callOk F sc_scores (by decide) fun fa cdv A outer sh H E hr => ?_
  exact (show DSs _ _ _ b_scores from (DSs.cons (s_setN 2 (DN.bin v_mulL (DN.de (DN.lst (a_cons DE.int DA.nil))) (DE.attr rfl A_vertices (e_nm 0))) S.nd) (DSs.cons (s_for [3] (i_r1 M (DE.attr rfl A_size (e_nm 0))) (g_nm 3 S.nd) (DSs.one (s_augL 2 v_iadd (DE.bin v_sub (DE.bin v_plus (e_ix (e_ix (DE.attr rfl A_edges (e_nm 0)) (e_nm 3)) DE.int) (e_ix (e_ix (DE.attr rfl A_edges (e_nm 0)) (e_nm 3)) DE.int)) (e_ix (e_nm 1) (e_nm 3))) DE.int))) (DSs.one (DS.ret (e_ct (b_tuple) M.tuple PyProof.Rows.boot_tuple (a_cons (e_nm 2) DA.nil)))))))
theorem ok_turned_path (M : NoG mg) (F : Df K mg "turned_path" (topS 9) ["graph", "heads", "first", "last"]) (A_edges : ClsF ⟨K, cls⟩ ["Graphic"] "edges") (A_size : ClsF ⟨K, cls⟩ ["Graphic"] "size") : CallOk P w K mg base ⟨K, cls⟩ 1 "turned_path" ["graph", "heads", "first", "last"] false m_turned_path := by
  have S := sc_turned_path
  refine callOk F sc_turned_path (by decide) fun fa cdv A outer sh H E hr => ?_
  exact (show DSs _ _ _ b_turned_path from (DSs.cons (s_setN 4 (DN.dct1 (e_nm 2) DE.non) S.nd) (DSs.cons (s_setN 5 (DN.lst (a_cons (e_nm 2) DA.nil)) S.nd) (DSs.cons (s_while [6, 8, 9] 40 (DW.dt (DW.and (t_cmp v_gt (e_cb (b_len rfl) M.len PySem.boot_len (a_cons (e_nm 5) DA.nil)) DE.int) (DW.and1 (t_cmp (v_notInD (hu_of hr)) (e_nm 3) (e_nm 4))))) (DSs.cons (s_set 6 (e_mut 5 PySem.F.plainAttrs_list PySem.F.slot_list_pop PySem.F.type_list_pop (m_popAt) (a_cons DE.int DA.nil)) S.nd) (DSs.one (s_for [8, 9] (i_r1 M (DE.attr rfl A_size (e_nm 0))) (g_nm 7 S.nd) (DSs.cons (s_asg (e_ix (DE.attr rfl A_edges (e_nm 0)) (e_nm 7)) (g_tup (W := [8, 9]) (gs_cons (g_nm 8 S.nd) (gs_cons (g_nm 9 S.nd) DGs.nil)))) (DSs.one (DS.ite (DW.dt (DW.and (t_cmp (v_in (hu_of hr)) (e_nm 6) (DE.tup (a_cons (e_nm 8) (a_cons (e_nm 9) DA.nil)))) (DW.and (t_cmp (v_eq (hu_of hr)) (e_ix (e_nm 1) (e_nm 7)) (DE.bin v_sub (DE.bin v_plus (e_nm 8) (e_nm 9)) (e_nm 6))) (DW.and1 (t_cmp (v_notInD (hu_of hr)) (e_ix (e_nm 1) (e_nm 7)) (e_nm 4)))))) (DSs.cons (s_putD (hu_of hr) 4 (e_ix (e_nm 1) (e_nm 7)) (DE.tup (a_cons (e_nm 6) (a_cons (e_nm 7) DA.nil)))) (DSs.one (s_expr (e_mut 5 PySem.F.plainAttrs_list PySem.F.slot_list_append PySem.F.type_list_append (m_append) (a_cons (e_ix (e_nm 1) (e_nm 7)) DA.nil))))) DSs.nil))))))) (DSs.cons (DS.ite (t_cmp (v_notInD (hu_of hr)) (e_nm 3) (e_nm 4)) (DSs.one (DS.ret DE.non)) DSs.nil) (DSs.cons (s_setN 10 (n_ct (b_list rfl) M.list PyProof.Rows.boot_list (a_cons (e_nm 1) DA.nil)) S.nd) (DSs.cons (s_while [7] 40 (t_cmp v_isNot (e_dget (hu_of hr) (e_nm 4) (e_nm 3)) DE.non) (DSs.cons (s_asg (e_dget (hu_of hr) (e_nm 4) (e_nm 3)) (g_tup (W := [3, 7]) (gs_cons (g_nm 3 S.nd) (gs_cons (g_nm 7 S.nd) DGs.nil)))) (DSs.one (s_asg (e_nm 3) (g_sub 10 (e_nm 7)))))) (DSs.one (DS.ret (e_nm 10))))))))))
theorem ok_led_to (M : NoG mg) (F : Df K mg "led_to" (topS 11) ["graph", "heads", "first"]) (A_edges : ClsF ⟨K, cls⟩ ["Graphic"] "edges") (A_size : ClsF ⟨K, cls⟩ ["Graphic"] "size") : CallOk P w K mg base ⟨K, cls⟩ 1 "led_to" ["graph", "heads", "first"] false m_led_to := by
  have S := sc_led_to
  refine callOk F sc_led_to (by decide) fun fa cdv A outer sh H E hr => ?_
  exact (show DSs _ _ _ b_led_to from (DSs.cons (s_setN 3 (DN.lst (a_cons (e_nm 2) DA.nil)) S.nd) (DSs.cons (s_set 4 DE.int S.nd) (DSs.cons (s_while [5, 6, 7, 8] 40 (t_cmp v_lt (e_nm 4) (e_cb (b_len rfl) M.len PySem.boot_len (a_cons (e_nm 3) DA.nil))) (DSs.cons (s_set 5 (e_ix (e_nm 3) (e_nm 4)) S.nd) (DSs.cons (s_for [6, 7, 8] (i_r1 M (DE.attr rfl A_size (e_nm 0))) (g_nm 6 S.nd) (DSs.cons (s_asg (e_ix (DE.attr rfl A_edges (e_nm 0)) (e_nm 6)) (g_tup (W := [7, 8]) (gs_cons (g_nm 7 S.nd) (gs_cons (g_nm 8 S.nd) DGs.nil)))) (DSs.one (DS.ite (DW.dt (DW.and (t_cmp (v_in (hu_of hr)) (e_nm 5) (DE.tup (a_cons (e_nm 7) (a_cons (e_nm 8) DA.nil)))) (DW.and (t_cmp (v_eq (hu_of hr)) (e_ix (e_nm 1) (e_nm 6)) (DE.bin v_sub (DE.bin v_plus (e_nm 7) (e_nm 8)) (e_nm 5))) (DW.and1 (t_cmp (v_notIn (hu_of hr)) (e_ix (e_nm 1) (e_nm 6)) (e_nm 3)))))) (DSs.one (s_expr (e_mut 3 PySem.F.plainAttrs_list PySem.F.slot_list_append PySem.F.type_list_append (m_append) (a_cons (e_ix (e_nm 1) (e_nm 6)) DA.nil)))) DSs.nil)))) (DSs.one (s_aug 4 v_iadd DE.int S.nd))))) (DSs.one (DS.ret (e_nm 3)))))))
theorem ok_directed (M : NoG mg) (F : Df K mg "directed" (topS 10) ["graph", "row"]) (C_scores : CallOk P w K mg base ⟨K, cls⟩ 1 "scores" ["graph", "heads"] false m_scores) (C_turned_path : CallOk P w K mg base ⟨K, cls⟩ 1 "turned_path" ["graph", "heads", "first", "last"] false m_turned_path) (C_led_to : CallOk P w K mg base ⟨K, cls⟩ 1 "led_to" ["graph", "heads", "first"] false m_led_to) (A_edges : ClsF ⟨K, cls⟩ ["Graphic"] "edges") (A_size : ClsF ⟨K, cls⟩ ["Graphic"] "size") (A_vertices : ClsF ⟨K, cls⟩ ["Graphic"] "vertices") : CallOk P w K mg base ⟨K, cls⟩ 2 "directed" ["graph", "row"] false m_directed := by
  have S := sc_directed
  refine callOk F sc_directed (by decide) fun fa cdv A outer sh H E hr => ?_
  exact (show DSs _ _ _ b_directed from (DSs.cons (DS.ite (t_cmp (v_ne (hu_of hr)) (e_cb (b_sumA rfl) M.sum PyProof.Rows.boot_sum (a_cons (e_nm 1) DA.nil)) (DE.attr rfl A_size (e_nm 0))) (DSs.one (DS.ret (DE.tup (a_cons DE.str (a_cons DE.non DA.nil))))) DSs.nil) (DSs.cons (s_setLc 2 [("u", 7), ("v", 8)] S.nd (i_val (DE.attr rfl A_edges (e_nm 0))) (fun _ _ _ _ _ => (g_tup (W := [7, 8]) (gs_cons (g_nm 7 S.nd) (gs_cons (g_nm 8 S.nd) DGs.nil)))) (fun _ _ _ _ _ => DTs.nil) (fun _ _ _ _ _ => (e_nm 8))) (DSs.cons (s_set 3 (e_cV C_scores (hr.mono (by decide)) (a_cons (e_nm 0) (a_cons (e_nm 2) DA.nil))) S.nd) (DSs.cons (s_while [4, 5, 6] 400 (t_cmp (v_ne (hu_of hr)) (e_nm 3) (e_ct (b_tuple) M.tuple PyProof.Rows.boot_tuple (a_cons (e_nm 1) DA.nil))) (DSs.cons (s_set 4 (e_ix (DN.de (n_lc [("v", 8)] S.nd (i_r1 M (DE.attr rfl A_vertices (e_nm 0))) (fun _ _ _ _ _ => (g_nm 8 S.nd)) (fun _ _ _ _ _ => (DTs.one (t_cmp v_gt (e_ix (e_nm 3) (e_nm 8)) (e_ix (e_nm 1) (e_nm 8))))) (fun _ _ _ _ _ => (e_nm 8)))) DE.int) S.nd) (DSs.cons (s_set 5 (e_cV C_led_to (hr.mono (by decide)) (a_cons (e_nm 0) (a_cons (e_nm 2) (a_cons (e_nm 4) DA.nil)))) S.nd) (DSs.cons (s_setLc 6 [("v", 8)] S.nd (i_val (e_nm 5)) (fun _ _ _ _ _ => (g_nm 8 S.nd)) (fun _ _ _ _ _ => (DTs.one (t_cmp v_lt (e_ix (e_nm 3) (e_nm 8)) (e_ix (e_nm 1) (e_nm 8))))) (fun _ _ _ _ _ => (e_nm 8))) (DSs.cons (DS.ite (t_cmp (v_eq (hu_of hr)) (e_cb (b_len rfl) M.len PySem.boot_len (a_cons (e_nm 6) DA.nil)) DE.int) (DSs.one (DS.ret (DE.tup (a_cons DE.str (a_cons (e_ct (b_tuple) M.tuple PyProof.Rows.boot_tuple (a_cons (DN.de (n_cb (b_sort (hu_of hr)) M.sorted PyProof.Rows.boot_sorted (a_cons (e_nm 5) DA.nil))) DA.nil)) DA.nil))))) DSs.nil) (DSs.cons (s_set 2 (e_cV C_turned_path (hr.mono (by decide)) (a_cons (e_nm 0) (a_cons (e_nm 2) (a_cons (e_nm 4) (a_cons (e_ix (e_nm 6) DE.int) DA.nil))))) S.nd) (DSs.one (s_set 3 (e_cV C_scores (hr.mono (by decide)) (a_cons (e_nm 0) (a_cons (e_nm 2) DA.nil))) S.nd)))))))) (DSs.one (DS.ret (DE.tup (a_cons DE.str (a_cons (e_ct (b_tuple) M.tuple PyProof.Rows.boot_tuple (a_cons (e_nm 2) DA.nil)) DA.nil))))))))))
theorem ok__law_start (M : NoG mg) (F : Df K mg "_law_start" (topS 13) ["script"]) : CallOk P w K mg base ⟨K, cls⟩ 1 "_law_start" ["script"] true m__law_start := by
  have S := sc__law_start
  refine callOk F sc__law_start (by decide) fun fa cdv A outer sh H E hr => ?_
  exact (show DSs _ _ _ b__law_start from (DSs.one (DS.retN (DN.lst (a_cons (e_nm 0) (a_cons DE.int (a_cons DE.int (a_cons DE.int DA.nil))))))))
theorem ok__law_pick (M : NoG mg) (F : Df K mg "_law_pick" (topS 14) ["state", "limit"]) : CallOk P w K mg base ⟨K, cls⟩ 1 "_law_pick" ["state", "limit"] false m__law_pick := by
  have S := sc__law_pick
  refine callOk F sc__law_pick (by decide) fun fa cdv A outer sh H E hr => ?_
  exact (show DSs _ _ _ b__law_pick from (DSs.cons (DS.ite (DW.dt (DW.and (t_cmp (v_eq (hu_of hr)) (e_ix (e_nm 0) DE.int) DE.int) (DW.and1 (t_cmp v_lt (e_ix (e_nm 0) DE.int) (e_cb (b_len rfl) M.len PySem.boot_len (a_cons (e_ix (e_nm 0) DE.int) DA.nil)))))) (DSs.cons (s_set 2 (e_cb (b_abs) M.abs PyProof.Rows.boot_abs (a_cons (e_ix (e_ix (e_nm 0) DE.int) (e_ix (e_nm 0) DE.int)) DA.nil)) S.nd) (DSs.cons (s_asg (DE.bin v_plus (e_ix (e_nm 0) DE.int) DE.int) (g_sub 0 DE.int)) (DSs.one (DS.ite (t_cmp v_ge (e_nm 2) (DE.bin v_pow DE.int DE.int)) (DSs.one (s_asg (e_nm 2) (g_sub 0 DE.int))) (DSs.one (s_asg (DE.bin v_plus (DE.bin v_mod (e_ct (b_int) M.int PyProof.Rows.boot_int (a_cons (DE.bin v_plus (DE.bin v_mul (e_ix (e_nm 0) DE.int) DE.int) (e_nm 2)) DA.nil)) DE.int) DE.int) (g_sub 0 DE.int))))))) DSs.nil) (DSs.cons (DS.ite (t_cmp v_gt (e_ix (e_nm 0) DE.int) DE.int) (DSs.cons (s_set 3 (DE.bin v_mod (e_ct (b_int) M.int PyProof.Rows.boot_int (a_cons (e_ix (e_nm 0) DE.int) DA.nil)) (e_nm 1)) S.nd) (DSs.cons (s_asg (DE.bin v_div (e_ix (e_nm 0) DE.int) (e_nm 1)) (g_sub 0 DE.int)) (DSs.one (DS.ret (e_nm 3))))) DSs.nil) (DSs.cons (s_asg (DE.bin v_mod (e_ct (b_int) M.int PyProof.Rows.boot_int (a_cons (DE.bin v_mul (e_ix (e_nm 0) DE.int) DE.int) DA.nil)) DE.int) (g_sub 0 DE.int)) (DSs.one (DS.ret (DE.bin v_mod (e_ct (b_int) M.int PyProof.Rows.boot_int (a_cons (DE.bin v_plus (DE.bin v_div (e_ix (e_nm 0) DE.int) DE.int) (DE.bin v_mod (e_ct (b_int) M.int PyProof.Rows.boot_int (a_cons (DE.bin v_mul (e_ix (e_nm 0) DE.int) (e_ix (e_nm 0) DE.int)) DA.nil)) DE.int)) DA.nil)) (e_nm 1))))))))
theorem ok__law_same (M : NoG mg) (F : Df K mg "_law_same" (topS 15) ["told", "due"]) : ∀ n : Nat, CallOk P w K mg base ⟨K, cls⟩ n "_law_same" ["told", "due"] false (m__law_same n)
  | 0 => .never F
  | n + 1 => by
    have Crec := ok__law_same M F n
    have S := sc__law_same
    refine callOk F sc__law_same (by decide) fun fa cdv A outer sh H E hr => ?_
    exact (show DSs _ _ _ (b__law_same (m__law_same n)) from (DSs.cons (DS.ite (t_cmp v_is (e_nm 1) DE.non) (DSs.one (DS.ret (e_cmp v_is (e_nm 0) DE.non))) DSs.nil) (DSs.cons (DS.ite (t_val (e_isi M M.bool PyProof.Rows.boot_bool (e_nm 1))) (DSs.one (DS.ret (DE.and (e_isi M M.bool PyProof.Rows.boot_bool (e_nm 0)) (DE.one (e_cmp (v_eq (hu_of hr)) (e_nm 0) (e_nm 1)))))) DSs.nil) (DSs.cons (DS.ite (t_val (e_isi M M.int PyProof.Rows.boot_int (e_nm 1))) (DSs.one (DS.ret (DE.and (e_isi M M.int PyProof.Rows.boot_int (e_nm 0)) (DE.and (DE.not (e_isi M M.bool PyProof.Rows.boot_bool (e_nm 0))) (DE.one (e_cmp (v_eq (hu_of hr)) (e_nm 0) (e_nm 1))))))) DSs.nil) (DSs.cons (DS.ite (t_val (e_isi M M.str PyProof.Rows.boot_str (e_nm 1))) (DSs.one (DS.ret (DE.and (e_isi M M.str PyProof.Rows.boot_str (e_nm 0)) (DE.one (e_cmp (v_eq (hu_of hr)) (e_nm 0) (e_nm 1)))))) DSs.nil) (DSs.cons (DS.ite (DW.dt (DW.or (DW.dt (DW.and (t_val (e_isi M M.list PyProof.Rows.boot_list (e_nm 1))) (DW.and1 (DT.not (t_val (e_isi M M.list PyProof.Rows.boot_list (e_nm 0))))))) (DW.or1 (DW.dt (DW.and (t_val (e_isi M M.tuple PyProof.Rows.boot_tuple (e_nm 1))) (DW.and1 (DT.not (t_val (e_isi M M.tuple PyProof.Rows.boot_tuple (e_nm 0)))))))))) (DSs.one (DS.ret DE.bl)) DSs.nil) (DSs.one (DS.ret (DE.and (e_cmp (v_eq (hu_of hr)) (e_cb (b_len rfl) M.len PySem.boot_len (a_cons (e_nm 0) DA.nil)) (e_cb (b_len rfl) M.len PySem.boot_len (a_cons (e_nm 1) DA.nil))) (DE.one (e_cmp (v_eq (hu_of hr)) (DN.de (n_lc [("k", 2)] S.nd (i_r1 M (e_cb (b_len rfl) M.len PySem.boot_len (a_cons (e_nm 1) DA.nil))) (fun _ _ _ _ _ => (g_nm 2 S.nd)) (fun _ _ _ _ _ => (DTs.one (DT.not (t_val (e_cV Crec (hr.mono (by omega)) (a_cons (e_ix (e_nm 0) (e_nm 2)) (a_cons (e_ix (e_nm 1) (e_nm 2)) DA.nil))))))) (fun _ _ _ _ _ => DE.int))) (DN.de (DN.lst DA.nil)))))))))))))
theorem ok__law_graph (M : NoG mg) (F : Df K mg "_law_graph" (topS 16) ["state", "most", "many"]) (C__law_pick : CallOk P w K mg base ⟨K, cls⟩ 1 "_law_pick" ["state", "limit"] false m__law_pick) : CallOk P w K mg base ⟨K, cls⟩ 2 "_law_graph" ["state", "most", "many"] false m__law_graph := by
  have S := sc__law_graph
  refine callOk F sc__law_graph (by decide) fun fa cdv A outer sh H E hr => ?_
  exact (show DSs _ _ _ b__law_graph from (DSs.cons (s_set 3 (DE.bin v_plus DE.int (e_cB C__law_pick (hr.mono (by decide)) (a_cons (e_nm 0) (a_cons (e_nm 1) DA.nil)))) S.nd) (DSs.cons (s_setN 4 (DN.lst DA.nil) S.nd) (DSs.cons (s_for [5, 6, 7] (i_r1 M (e_cB C__law_pick (hr.mono (by decide)) (a_cons (e_nm 0) (a_cons (DE.bin v_plus (e_nm 2) DE.int) DA.nil)))) (g_nm 5 S.nd) (DSs.cons (s_set 6 (e_cB C__law_pick (hr.mono (by decide)) (a_cons (e_nm 0) (a_cons (e_nm 3) DA.nil))) S.nd) (DSs.cons (s_set 7 (e_cB C__law_pick (hr.mono (by decide)) (a_cons (e_nm 0) (a_cons (e_nm 3) DA.nil))) S.nd) (DSs.cons (DS.ite (DW.dt (DW.and (t_cmp (v_eq (hu_of hr)) (e_nm 6) (e_nm 7)) (DW.and1 (t_cmp v_gt (e_cB C__law_pick (hr.mono (by decide)) (a_cons (e_nm 0) (a_cons DE.int DA.nil))) DE.int)))) (DSs.one (s_set 7 (DE.bin v_mod (e_ct (b_int) M.int PyProof.Rows.boot_int (a_cons (DE.bin v_plus (e_nm 6) DE.int) DA.nil)) (e_nm 3)) S.nd)) DSs.nil) (DSs.one (s_expr (e_mut 4 PySem.F.plainAttrs_list PySem.F.slot_list_append PySem.F.type_list_append (m_append) (a_cons (DE.tup (a_cons (e_cb (b_min2 rfl) M.min PyProof.Rows.boot_min (a_cons (e_nm 6) (a_cons (e_nm 7) DA.nil))) (a_cons (e_cb (b_max2 rfl) M.max PyProof.Rows.boot_max (a_cons (e_nm 6) (a_cons (e_nm 7) DA.nil))) DA.nil))) DA.nil)))))))) (DSs.one (DS.ret (DE.tup (a_cons (e_nm 3) (a_cons (e_ct (b_tuple) M.tuple PyProof.Rows.boot_tuple (a_cons (e_nm 4) DA.nil)) DA.nil)))))))))
theorem ok__law_sets (M : NoG mg) (F : Df K mg "_law_sets" (topS 19) ["size"]) : CallOk P w K mg base ⟨K, cls⟩ 1 "_law_sets" ["size"] false m__law_sets := by
  have S := sc__law_sets
  refine callOk F sc__law_sets (by decide) fun fa cdv A outer sh H E hr => ?_
  exact (show DSs _ _ _ b__law_sets from (DSs.cons (s_set 1 (DN.de (DN.lst (a_cons (DE.tup DA.nil) DA.nil))) S.nd) (DSs.cons (s_set 2 (DN.de (DN.lst (a_cons (DE.tup DA.nil) DA.nil))) S.nd) (DSs.cons (s_for [3, 4, 5, 6] (i_r1 M (e_nm 0)) (g_nm 3 S.nd) (DSs.cons (s_set 4 (DN.de (DN.lst DA.nil)) S.nd) (DSs.cons (s_for [5, 6] (i_val (e_nm 1)) (g_nm 5 S.nd) (DSs.cons (s_set 6 DE.int S.nd) (DSs.cons (DS.ite (t_cmp (v_ne (hu_of hr)) (e_nm 5) (DE.tup DA.nil)) (DSs.one (s_set 6 (DE.bin v_plus (e_ix (e_nm 5) (DE.neg DE.int)) DE.int) S.nd)) DSs.nil) (DSs.one (s_set 4 (DE.bin v_plus (e_nm 4) (DN.de (n_lc [("element", 7)] S.nd (i_r2 M (e_nm 6) (e_nm 0)) (fun _ _ _ _ _ => (g_nm 7 S.nd)) (fun _ _ _ _ _ => DTs.nil) (fun _ _ _ _ _ => (DE.bin v_plus (e_nm 5) (DE.tup (a_cons (e_nm 7) DA.nil))))))) S.nd))))) (DSs.cons (s_set 1 (e_nm 4) S.nd) (DSs.one (s_set 2 (DE.bin v_plus (e_nm 2) (e_nm 1)) S.nd)))))) (DSs.one (DS.ret (e_nm 2)))))))
theorem ok__law_scores (M : NoG mg) (F : Df K mg "_law_scores" (topS 20) ["vertices", "edges", "heads"]) : CallOk P w K mg base ⟨K, cls⟩ 1 "_law_scores" ["vertices", "edges", "heads"] false m__law_scores := by
  have S := sc__law_scores
  refine callOk F sc__law_scores (by decide) fun fa cdv A outer sh H E hr => ?_
  exact (show DSs _ _ _ b__law_scores from (DSs.cons (s_set 3 (DN.de (n_lc [("k", 4)] S.nd (i_r1 M (e_cb (b_len rfl) M.len PySem.boot_len (a_cons (e_nm 1) DA.nil))) (fun _ _ _ _ _ => (g_nm 4 S.nd)) (fun _ _ _ _ _ => DTs.nil) (fun _ _ _ _ _ => (DE.bin v_sub (DE.bin v_plus (e_ix (e_ix (e_nm 1) (e_nm 4)) DE.int) (e_ix (e_ix (e_nm 1) (e_nm 4)) DE.int)) (e_ix (e_nm 2) (e_nm 4)))))) S.nd) (DSs.one (DS.ret (e_ct (b_tuple) M.tuple PyProof.Rows.boot_tuple (a_cons (DN.de (n_lc [("v", 5)] S.nd (i_r1 M (e_nm 0)) (fun _ _ _ _ _ => (g_nm 5 S.nd)) (fun _ _ _ _ _ => DTs.nil) (fun _ _ _ _ _ => (e_cb (b_len rfl) M.len PySem.boot_len (a_cons (DN.de (n_lc [("one", 6)] S.nd (i_val (e_nm 3)) (fun _ _ _ _ _ => (g_nm 6 S.nd)) (fun _ _ _ _ _ => (DTs.one (t_cmp (v_eq (hu_of hr)) (e_nm 6) (e_nm 5)))) (fun _ _ _ _ _ => DE.int))) DA.nil))))) DA.nil))))))
theorem ok__law_far (M : NoG mg) (F : Df K mg "_law_far" (topS 21) ["edges", "heads", "first"]) : CallOk P w K mg base ⟨K, cls⟩ 1 "_law_far" ["edges", "heads", "first"] false m__law_far := by
  have S := sc__law_far
  refine callOk F sc__law_far (by decide) fun fa cdv A outer sh H E hr => ?_
  exact (show DSs _ _ _ b__law_far from (DSs.cons (s_setN 3 (DN.dct1 (e_nm 2) DE.int) S.nd) (DSs.cons (s_setN 4 (DN.lst (a_cons (e_nm 2) DA.nil)) S.nd) (DSs.cons (s_set 5 DE.int S.nd) (DSs.cons (s_while [6, 7] 40 (t_cmp v_lt (e_nm 5) (e_cb (b_len rfl) M.len PySem.boot_len (a_cons (e_nm 4) DA.nil))) (DSs.cons (s_for [6, 7] (i_r1 M (e_cb (b_len rfl) M.len PySem.boot_len (a_cons (e_nm 0) DA.nil))) (g_nm 6 S.nd) (DSs.cons (s_set 7 (DE.bin v_sub (DE.bin v_plus (e_ix (e_ix (e_nm 0) (e_nm 6)) DE.int) (e_ix (e_ix (e_nm 0) (e_nm 6)) DE.int)) (e_ix (e_nm 1) (e_nm 6))) S.nd) (DSs.one (DS.ite (DW.dt (DW.and (t_cmp (v_eq (hu_of hr)) (e_nm 7) (e_ix (e_nm 4) (e_nm 5))) (DW.and1 (t_cmp (v_notInD (hu_of hr)) (e_ix (e_nm 1) (e_nm 6)) (e_nm 3))))) (DSs.cons (s_putD (hu_of hr) 3 (e_ix (e_nm 1) (e_nm 6)) (DE.bin v_plus (e_dget (hu_of hr) (e_nm 3) (e_nm 7)) DE.int)) (DSs.one (s_expr (e_mut 4 PySem.F.plainAttrs_list PySem.F.slot_list_append PySem.F.type_list_append (m_append) (a_cons (e_ix (e_nm 1) (e_nm 6)) DA.nil))))) DSs.nil)))) (DSs.one (s_set 5 (DE.bin v_plus (e_nm 5) DE.int) S.nd)))) (DSs.one (DS.ret (e_nm 3))))))))
theorem ok_Graphic__init (M : NoG mg) (F : Dc K mg cls "Graphic" "Graphic.__init__" (L2.inClass (topS 6) 0) ["self", "vertices", "edges"]) (C_graph_breach : CallOk P w K mg base ⟨K, cls⟩ 1 "graph_breach" ["vertices", "edges"] false m_graph_breach) (A_edges : ClsF ⟨K, cls⟩ ["Graphic"] "edges") (A_size : ClsF ⟨K, cls⟩ ["Graphic"] "size") (A_vertices : ClsF ⟨K, cls⟩ ["Graphic"] "vertices") : MakeOk P w K mg base ⟨K, cls⟩ 2 "Graphic" ["self", "vertices", "edges"] m_Graphic__init := by
  have S := sc_Graphic__init
  refine makeOk F sc_Graphic__init (by decide) fun fa cdv A outer sh H E hr => ?_
  exact (show DSs _ _ _ b_Graphic__init from (DSs.cons (DS.ite (t_cmp v_isNot (e_cV C_graph_breach (hr.mono (by decide)) (a_cons (e_nm 1) (a_cons (e_nm 2) DA.nil))) DE.non) (DSs.one DS.never) DSs.nil) (DSs.cons (DS.fld rfl 0 A_size (e_cb (b_len rfl) M.len PySem.boot_len (a_cons (e_nm 2) DA.nil))) (DSs.cons (DS.fld rfl 0 A_vertices (e_nm 1)) (DSs.one (DS.fld rfl 0 A_edges (e_ct (b_tuple) M.tuple PyProof.Rows.boot_tuple (a_cons (e_nm 2) DA.nil))))))))
theorem ok__law_judged (M : NoG mg) (F : Df K mg "_law_judged" (topS 22) ["vertices", "edges", "row"]) (C_Graphic__init : MakeOk P w K mg base ⟨K, cls⟩ 2 "Graphic" ["self", "vertices", "edges"] m_Graphic__init) (C_directed : CallOk P w K mg base ⟨K, cls⟩ 2 "directed" ["graph", "row"] false m_directed) (C__law_scores : CallOk P w K mg base ⟨K, cls⟩ 1 "_law_scores" ["vertices", "edges", "heads"] false m__law_scores) : CallOk P w K mg base ⟨K, cls⟩ 4 "_law_judged" ["vertices", "edges", "row"] false m__law_judged := by
  have S := sc__law_judged
  refine callOk F sc__law_judged (by decide) fun fa cdv A outer sh H E hr => ?_
  exact (show DSs _ _ _ b__law_judged from (DSs.cons (s_set 3 (e_cV C_directed (hr.mono (by decide)) (a_cons (DN.de (n_make C_Graphic__init (hr.mono (by decide)) (a_cons (e_nm 0) (a_cons (e_nm 1) DA.nil)))) (a_cons (e_nm 2) DA.nil))) S.nd) (DSs.cons (DS.ite (DW.dt (DW.or (DT.not (t_val (e_isi M M.tuple PyProof.Rows.boot_tuple (e_nm 3)))) (DW.or1 (t_cmp (v_ne (hu_of hr)) (e_cb (b_len rfl) M.len PySem.boot_len (a_cons (e_nm 3) DA.nil)) DE.int)))) (DSs.one (DS.ret DE.non)) DSs.nil) (DSs.cons (DS.ite (t_cmp (v_eq (hu_of hr)) (e_ix (e_nm 3) DE.int) DE.str) (DSs.cons (s_set 4 (DE.and (e_isi M M.tuple PyProof.Rows.boot_tuple (e_ix (e_nm 3) DE.int)) (DE.one (e_cmp (v_eq (hu_of hr)) (e_cb (b_len rfl) M.len PySem.boot_len (a_cons (e_ix (e_nm 3) DE.int) DA.nil)) (e_cb (b_len rfl) M.len PySem.boot_len (a_cons (e_nm 1) DA.nil))))) S.nd) (DSs.cons (s_set 4 (DE.and (e_nm 4) (DE.one (e_cmp (v_eq (hu_of hr)) (DN.de (n_lc [("k", 6)] S.nd (i_r1 M (e_cb (b_len rfl) M.len PySem.boot_len (a_cons (e_nm 1) DA.nil))) (fun _ _ _ _ _ => (g_nm 6 S.nd)) (fun _ _ _ _ _ => (DTs.one (t_cmp (v_notIn (hu_of hr)) (e_ix (e_ix (e_nm 3) DE.int) (e_nm 6)) (e_ix (e_nm 1) (e_nm 6))))) (fun _ _ _ _ _ => DE.int))) (DN.de (DN.lst DA.nil))))) S.nd) (DSs.one (DS.ret (DE.and (e_nm 4) (DE.one (e_cmp (v_eq (hu_of hr)) (e_cV C__law_scores (hr.mono (by decide)) (a_cons (e_nm 0) (a_cons (e_nm 1) (a_cons (e_ix (e_nm 3) DE.int) DA.nil)))) (e_ct (b_tuple) M.tuple PyProof.Rows.boot_tuple (a_cons (e_nm 2) DA.nil))))))))) DSs.nil) (DSs.cons (DS.ite (t_cmp (v_ne (hu_of hr)) (e_ix (e_nm 3) DE.int) DE.str) (DSs.one (DS.ret DE.non)) DSs.nil) (DSs.cons (DS.ite (t_cmp (v_ne (hu_of hr)) (e_cb (b_sumA rfl) M.sum PyProof.Rows.boot_sum (a_cons (e_nm 2) DA.nil)) (e_cb (b_len rfl) M.len PySem.boot_len (a_cons (e_nm 1) DA.nil))) (DSs.one (DS.ret (e_cmp v_is (e_ix (e_nm 3) DE.int) DE.non))) DSs.nil) (DSs.cons (DS.ite (DW.dt (DW.or (DT.not (t_val (e_isi M M.tuple PyProof.Rows.boot_tuple (e_ix (e_nm 3) DE.int)))) (DW.or1 (t_cmp (v_ne (hu_of hr)) (DN.de (n_ct (b_list rfl) M.list PyProof.Rows.boot_list (a_cons (e_ix (e_nm 3) DE.int) DA.nil))) (DN.de (DN.sortSet M (e_ix (e_nm 3) DE.int))))))) (DSs.one (DS.ret DE.non)) DSs.nil) (DSs.cons (s_set 5 (e_cb (b_len rfl) M.len PySem.boot_len (a_cons (DN.de (n_lc [("a", 7), ("b", 8)] S.nd (i_val (e_nm 1)) (fun _ _ _ _ _ => (g_tup (W := [7, 8]) (gs_cons (g_nm 7 S.nd) (gs_cons (g_nm 8 S.nd) DGs.nil)))) (fun _ _ _ _ _ => (DTs.one (DW.dt (DW.and (t_cmp (v_in (hu_of hr)) (e_nm 7) (e_ix (e_nm 3) DE.int)) (DW.and1 (t_cmp (v_in (hu_of hr)) (e_nm 8) (e_ix (e_nm 3) DE.int))))))) (fun _ _ _ _ _ => DE.int))) DA.nil)) S.nd) (DSs.one (DS.ret (e_cmp v_gt (e_nm 5) (e_cb (b_sumA rfl) M.sum PyProof.Rows.boot_sum (a_cons (DN.de (n_lc [("v", 9)] S.nd (i_val (e_ix (e_nm 3) DE.int)) (fun _ _ _ _ _ => (g_nm 9 S.nd)) (fun _ _ _ _ _ => DTs.nil) (fun _ _ _ _ _ => (e_ix (e_nm 2) (e_nm 9))))) DA.nil)))))))))))))
theorem ok__law_drawn (M : NoG mg) (F : Df K mg "_law_drawn" (topS 23) ["state", "edges"]) (C__law_pick : CallOk P w K mg base ⟨K, cls⟩ 1 "_law_pick" ["state", "limit"] false m__law_pick) : CallOk P w K mg base ⟨K, cls⟩ 2 "_law_drawn" ["state", "edges"] false m__law_drawn := by
  have S := sc__law_drawn
  refine callOk F sc__law_drawn (by decide) fun fa cdv A outer sh H E hr => ?_
  exact (show DSs _ _ _ b__law_drawn from (DSs.one (DS.ret (e_ct (b_tuple) M.tuple PyProof.Rows.boot_tuple (a_cons (DN.de (n_lc [("edge", 2)] S.nd (i_val (e_nm 1)) (fun _ _ _ _ _ => (g_nm 2 S.nd)) (fun _ _ _ _ _ => DTs.nil) (fun _ _ _ _ _ => (e_ix (e_nm 2) (e_cB C__law_pick (hr.mono (by decide)) (a_cons (e_nm 0) (a_cons DE.int DA.nil))))))) DA.nil)))))
theorem ok__law_bent (M : NoG mg) (F : Df K mg "_law_bent" (topS 24) ["state", "row"]) (C__law_pick : CallOk P w K mg base ⟨K, cls⟩ 1 "_law_pick" ["state", "limit"] false m__law_pick) : CallOk P w K mg base ⟨K, cls⟩ 2 "_law_bent" ["state", "row"] false m__law_bent := by
  have S := sc__law_bent
  refine callOk F sc__law_bent (by decide) fun fa cdv A outer sh H E hr => ?_
  exact (show DSs _ _ _ b__law_bent from (DSs.cons (s_setN 1 (n_ct (b_list rfl) M.list PyProof.Rows.boot_list (a_cons (e_nm 1) DA.nil)) S.nd) (DSs.cons (s_for [2, 3, 4] (i_r1 M (e_cB C__law_pick (hr.mono (by decide)) (a_cons (e_nm 0) (a_cons DE.int DA.nil)))) (g_nm 2 S.nd) (DSs.cons (s_set 3 (e_cB C__law_pick (hr.mono (by decide)) (a_cons (e_nm 0) (a_cons (e_cb (b_len rfl) M.len PySem.boot_len (a_cons (e_nm 1) DA.nil)) DA.nil))) S.nd) (DSs.cons (s_set 4 (e_cB C__law_pick (hr.mono (by decide)) (a_cons (e_nm 0) (a_cons (e_cb (b_len rfl) M.len PySem.boot_len (a_cons (e_nm 1) DA.nil)) DA.nil))) S.nd) (DSs.cons (s_asg (DE.bin v_plus (e_ix (e_nm 1) (e_nm 3)) DE.int) (g_sub 1 (e_nm 3))) (DSs.one (s_asg (DE.bin v_sub (e_ix (e_nm 1) (e_nm 4)) DE.int) (g_sub 1 (e_nm 4)))))))) (DSs.cons (DS.ite (t_cmp (v_eq (hu_of hr)) (e_cB C__law_pick (hr.mono (by decide)) (a_cons (e_nm 0) (a_cons DE.int DA.nil))) DE.int) (DSs.one (s_asg (DE.bin v_plus (e_ix (e_nm 1) DE.int) DE.int) (g_sub 1 DE.int))) DSs.nil) (DSs.one (DS.ret (e_ct (b_tuple) M.tuple PyProof.Rows.boot_tuple (a_cons (e_nm 1) DA.nil))))))))
theorem fn_law {fa : Addr} {fd : FuncData} (M : NoG mg) (F : Fun K "law" "law" (topS 25) fa fd) (C_Graphic__init : MakeOk P w K mg base ⟨K, cls⟩ 2 "Graphic" ["self", "vertices", "edges"] m_Graphic__init) (C_scores : CallOk P w K mg base ⟨K, cls⟩ 1 "scores" ["graph", "heads"] false m_scores) (C_turned_path : CallOk P w K mg base ⟨K, cls⟩ 1 "turned_path" ["graph", "heads", "first", "last"] false m_turned_path) (C_directed : CallOk P w K mg base ⟨K, cls⟩ 2 "directed" ["graph", "row"] false m_directed) (C_led_to : CallOk P w K mg base ⟨K, cls⟩ 1 "led_to" ["graph", "heads", "first"] false m_led_to) (C__law_start : CallOk P w K mg base ⟨K, cls⟩ 1 "_law_start" ["script"] true m__law_start) (C__law_pick : CallOk P w K mg base ⟨K, cls⟩ 1 "_law_pick" ["state", "limit"] false m__law_pick) (C__law_same : CallOk P w K mg base ⟨K, cls⟩ 5 "_law_same" ["told", "due"] false (m__law_same 5)) (C__law_graph : CallOk P w K mg base ⟨K, cls⟩ 2 "_law_graph" ["state", "most", "many"] false m__law_graph) (C__law_sets : CallOk P w K mg base ⟨K, cls⟩ 1 "_law_sets" ["size"] false m__law_sets) (C__law_scores : CallOk P w K mg base ⟨K, cls⟩ 1 "_law_scores" ["vertices", "edges", "heads"] false m__law_scores) (C__law_far : CallOk P w K mg base ⟨K, cls⟩ 1 "_law_far" ["edges", "heads", "first"] false m__law_far) (C__law_judged : CallOk P w K mg base ⟨K, cls⟩ 4 "_law_judged" ["vertices", "edges", "row"] false m__law_judged) (C__law_drawn : CallOk P w K mg base ⟨K, cls⟩ 2 "_law_drawn" ["state", "edges"] false m__law_drawn) (C__law_bent : CallOk P w K mg base ⟨K, cls⟩ 2 "_law_bent" ["state", "row"] false m__law_bent) : FnOk P w K mg base CX0 6 fa fd ["script"] (spD ⟨K, cls⟩ false m_law) := by
  have S := sc_law
  refine fnD_ok F sc_law (by decide) fun cdv A outer sh H E hr => ?_
  exact (show DSs _ _ _ b_law from (DSs.cons (s_setN 1 (n_cV C__law_start (hr.mono (by decide)) (a_cons (e_nm 0) DA.nil)) S.nd) (DSs.cons (s_asg (e_cB C__law_graph (hr.mono (by decide)) (a_cons (e_nm 1) (a_cons DE.int (a_cons DE.int DA.nil)))) (g_tup (W := [2, 3]) (gs_cons (g_nm 2 S.nd) (gs_cons (g_nm 3 S.nd) DGs.nil)))) (DSs.cons (s_set 4 (DN.de (n_make C_Graphic__init (hr.mono (by decide)) (a_cons (e_nm 2) (a_cons (e_nm 3) DA.nil)))) S.nd) (DSs.cons (s_for [5, 6, 7, 8, 9] (i_r1 M DE.int) (g_nm 5 S.nd) (DSs.cons (s_set 6 (e_cB C__law_bent (hr.mono (by decide)) (a_cons (e_nm 1) (a_cons (e_cV C__law_scores (hr.mono (by decide)) (a_cons (e_nm 2) (a_cons (e_nm 3) (a_cons (e_cB C__law_drawn (hr.mono (by decide)) (a_cons (e_nm 1) (a_cons (e_nm 3) DA.nil))) DA.nil)))) DA.nil))) S.nd) (DSs.cons (s_set 7 (e_cmp (v_eq (hu_of hr)) (e_cb (b_sumA rfl) M.sum PyProof.Rows.boot_sum (a_cons (e_nm 6) DA.nil)) (e_cb (b_len rfl) M.len PySem.boot_len (a_cons (e_nm 3) DA.nil))) S.nd) (DSs.cons (s_for [8, 9] (i_val (e_cV C__law_sets (hr.mono (by decide)) (a_cons (e_nm 2) DA.nil))) (g_nm 8 S.nd) (DSs.cons (s_set 9 (e_cb (b_len rfl) M.len PySem.boot_len (a_cons (DN.de (n_lc [("a", 19), ("b", 20)] S.nd (i_val (e_nm 3)) (fun _ _ _ _ _ => (g_tup (W := [19, 20]) (gs_cons (g_nm 19 S.nd) (gs_cons (g_nm 20 S.nd) DGs.nil)))) (fun _ _ _ _ _ => (DTs.one (DW.dt (DW.and (t_cmp (v_in (hu_of hr)) (e_nm 19) (e_nm 8)) (DW.and1 (t_cmp (v_in (hu_of hr)) (e_nm 20) (e_nm 8))))))) (fun _ _ _ _ _ => DE.int))) DA.nil)) S.nd) (DSs.one (s_set 7 (DE.and (e_nm 7) (DE.one (e_cmp v_le (e_nm 9) (e_cb (b_sumA rfl) M.sum PyProof.Rows.boot_sum (a_cons (DN.de (n_lc [("v", 21)] S.nd (i_val (e_nm 8)) (fun _ _ _ _ _ => (g_nm 21 S.nd)) (fun _ _ _ _ _ => DTs.nil) (fun _ _ _ _ _ => (e_ix (e_nm 6) (e_nm 21))))) DA.nil))))) S.nd)))) (DSs.one (DS.ite (DW.dt (DW.or (t_cmp v_isNot (e_cV C__law_judged (hr.mono (by decide)) (a_cons (e_nm 2) (a_cons (e_nm 3) (a_cons (e_nm 6) DA.nil)))) DE.bl) (DW.or1 (t_cmp (v_ne (hu_of hr)) (e_cmp (v_eq (hu_of hr)) (e_ix (e_cV C_directed (hr.mono (by decide)) (a_cons (e_nm 4) (a_cons (e_nm 6) DA.nil))) DE.int) DE.str) (e_nm 7))))) (DSs.one (DS.ret DE.bl)) DSs.nil)))))) (DSs.cons (s_set 10 (e_cB C__law_drawn (hr.mono (by decide)) (a_cons (e_nm 1) (a_cons (e_nm 3) DA.nil))) S.nd) (DSs.cons (DS.ite (DT.not (t_val (e_cV C__law_same (hr.mono (by decide)) (a_cons (e_cV C_scores (hr.mono (by decide)) (a_cons (e_nm 4) (a_cons (e_nm 10) DA.nil))) (a_cons (e_cV C__law_scores (hr.mono (by decide)) (a_cons (e_nm 2) (a_cons (e_nm 3) (a_cons (e_nm 10) DA.nil)))) DA.nil))))) (DSs.one (DS.ret DE.bl)) DSs.nil) (DSs.cons (s_set 11 (e_cB C__law_pick (hr.mono (by decide)) (a_cons (e_nm 1) (a_cons (e_nm 2) DA.nil))) S.nd) (DSs.cons (s_set 12 (e_cB C__law_pick (hr.mono (by decide)) (a_cons (e_nm 1) (a_cons (e_nm 2) DA.nil))) S.nd) (DSs.cons (s_set 13 (e_cV C__law_far (hr.mono (by decide)) (a_cons (e_nm 3) (a_cons (e_nm 10) (a_cons (e_nm 11) DA.nil)))) S.nd) (DSs.cons (DS.ite (t_cmp (v_ne (hu_of hr)) (DN.de (n_cb (b_sort (hu_of hr)) M.sorted PyProof.Rows.boot_sorted (a_cons (e_cV C_led_to (hr.mono (by decide)) (a_cons (e_nm 4) (a_cons (e_nm 10) (a_cons (e_nm 11) DA.nil)))) DA.nil))) (DN.de (n_cb (b_sort (hu_of hr)) M.sorted PyProof.Rows.boot_sorted (a_cons (DN.de (n_ct (b_listD rfl) M.list PyProof.Rows.boot_list (a_cons (e_nm 13) DA.nil))) DA.nil)))) (DSs.one (DS.ret DE.bl)) DSs.nil) (DSs.cons (s_set 14 (e_cV C_turned_path (hr.mono (by decide)) (a_cons (e_nm 4) (a_cons (DN.de (n_ct (b_list rfl) M.list PyProof.Rows.boot_list (a_cons (e_nm 10) DA.nil))) (a_cons (e_nm 11) (a_cons (e_nm 12) DA.nil))))) S.nd) (DSs.cons (DS.ite (t_cmp (v_ne (hu_of hr)) (e_cmp v_is (e_nm 14) DE.non) (e_cmp (v_notInD (hu_of hr)) (e_nm 12) (e_nm 13))) (DSs.one (DS.ret DE.bl)) DSs.nil) (DSs.cons (DS.ite (t_cmp v_isNot (e_nm 14) DE.non) (DSs.cons (DS.ite (t_cmp (v_ne (hu_of hr)) (e_cb (b_len rfl) M.len PySem.boot_len (a_cons (DN.de (n_lc [("k", 22)] S.nd (i_r1 M (e_cb (b_len rfl) M.len PySem.boot_len (a_cons (e_nm 3) DA.nil))) (fun _ _ _ _ _ => (g_nm 22 S.nd)) (fun _ _ _ _ _ => (DTs.one (t_cmp (v_ne (hu_of hr)) (e_ix (e_nm 14) (e_nm 22)) (e_ix (e_nm 10) (e_nm 22))))) (fun _ _ _ _ _ => DE.int))) DA.nil)) (e_dget (hu_of hr) (e_nm 13) (e_nm 12))) (DSs.one (DS.ret DE.bl)) DSs.nil) (DSs.cons (s_setN 15 (n_ct (b_list rfl) M.list PyProof.Rows.boot_list (a_cons (e_cV C__law_scores (hr.mono (by decide)) (a_cons (e_nm 2) (a_cons (e_nm 3) (a_cons (e_nm 10) DA.nil)))) DA.nil)) S.nd) (DSs.cons (s_asg (DE.bin v_sub (e_ix (e_nm 15) (e_nm 11)) (e_ct (b_int) M.int PyProof.Rows.boot_int (a_cons (e_cmp (v_ne (hu_of hr)) (e_nm 11) (e_nm 12)) DA.nil))) (g_sub 15 (e_nm 11))) (DSs.cons (s_asg (DE.bin v_plus (e_ix (e_nm 15) (e_nm 12)) (e_ct (b_int) M.int PyProof.Rows.boot_int (a_cons (e_cmp (v_ne (hu_of hr)) (e_nm 11) (e_nm 12)) DA.nil))) (g_sub 15 (e_nm 12))) (DSs.one (DS.ite (DW.dt (DW.or (t_cmp (v_ne (hu_of hr)) (e_cV C__law_scores (hr.mono (by decide)) (a_cons (e_nm 2) (a_cons (e_nm 3) (a_cons (e_nm 14) DA.nil)))) (e_ct (b_tuple) M.tuple PyProof.Rows.boot_tuple (a_cons (e_nm 15) DA.nil))) (DW.or1 (t_cmp (v_notInD (hu_of hr)) (e_nm 12) (e_cV C__law_far (hr.mono (by decide)) (a_cons (e_nm 3) (a_cons (e_nm 10) (a_cons (e_nm 11) DA.nil)))))))) (DSs.one (DS.ret DE.bl)) DSs.nil)))))) DSs.nil) (DSs.cons (s_asg (e_cB C__law_graph (hr.mono (by decide)) (a_cons (e_nm 1) (a_cons DE.int (a_cons DE.int DA.nil)))) (g_tup (W := [16, 17]) (gs_cons (g_nm 16 S.nd) (gs_cons (g_nm 17 S.nd) DGs.nil)))) (DSs.cons (s_set 18 (e_cV C__law_scores (hr.mono (by decide)) (a_cons (e_nm 16) (a_cons (e_nm 17) (a_cons (e_cB C__law_drawn (hr.mono (by decide)) (a_cons (e_nm 1) (a_cons (e_nm 17) DA.nil))) DA.nil)))) S.nd) (DSs.cons (DS.ite (DW.dt (DW.or (t_cmp (v_ne (hu_of hr)) (e_ix (e_cV C_directed (hr.mono (by decide)) (a_cons (DN.de (n_make C_Graphic__init (hr.mono (by decide)) (a_cons (e_nm 16) (a_cons (e_nm 17) DA.nil)))) (a_cons (e_nm 18) DA.nil))) DE.int) DE.str) (DW.or1 (t_cmp v_isNot (e_cV C__law_judged (hr.mono (by decide)) (a_cons (e_nm 16) (a_cons (e_nm 17) (a_cons (e_nm 18) DA.nil)))) DE.bl)))) (DSs.one (DS.ret DE.bl)) DSs.nil) (DSs.one (DS.ret (e_cmp v_is (e_cV C__law_judged (hr.mono (by decide)) (a_cons (e_nm 16) (a_cons (e_nm 17) (a_cons (e_cB C__law_bent (hr.mono (by decide)) (a_cons (e_nm 1) (a_cons (e_nm 18) DA.nil))) DA.nil)))) DE.bl))))))))))))))))))))
end
theorem all_mk {l : PySem.W.OpenLaw} {w : World} {K : PySem.W.Frag} {h : Heap} {mg : Str → Option Value} {fa : Addr} (LT : LawTrue m_law 63) (X : K.In h) (G : h.Ns mainGlobals mg) (hfa : mg "law" = some (.ref fa))
    {C_Graphic : Addr} (ca_Graphic : PySem.W.nsIn K mainGlobals "Graphic" = some (some (.ref C_Graphic))) (pg_Graphic : PySem.W.plainGet K C_Graphic Str.empty = true) (hd_Graphic : PySem.W.hasDictIn K C_Graphic = true) (po_Graphic : PySem.W.plainOver K C_Graphic = true) (sa_Graphic : PySem.W.findIn K (.ref C_Graphic) "__setattr__" = some (some (.builtin "object.__setattr__"))) (mk_Graphic : PySem.W.makesIn K C_Graphic = true) (kc_Graphic : PySem.W.keepIn K (.ref C_Graphic) = true)
    (n_Graphic_edges : PySem.W.findIn K (.ref C_Graphic) "edges" = some none)
    (n_Graphic_size : PySem.W.findIn K (.ref C_Graphic) "size" = some none)
    (n_Graphic_vertices : PySem.W.findIn K (.ref C_Graphic) "vertices" = some none)
    {f0 : Addr} {od0 an0 : Option Addr} {sl0 : Array (Option Value)} {oc0 kV0 dc0 pm0 cd0 ct0 : Value}
    (a0 : PySem.W.nsIn K mainGlobals "graph_breach" = some (some (.ref f0)))
    (l0 : K.lookup f0 = some ⟨oc0, od0, .func (PySem.W.fnOf "graph_breach" "graph_breach" (defArgs (topS 5)) (defBody (topS 5)) (defScope (topS 5)) .none kV0 dc0 pm0 an0 cd0 ct0), sl0⟩) (c0 : PySem.W.codeIn K cd0 "graph_breach" = true) (k0 : PySem.W.keepIn K (.ref f0) = true)
    {f1 : Addr} {od1 an1 : Option Addr} {sl1 : Array (Option Value)} {oc1 kV1 dc1 pm1 cd1 ct1 : Value}
    (a1 : PySem.W.nsIn K mainGlobals "scores" = some (some (.ref f1)))
    (l1 : K.lookup f1 = some ⟨oc1, od1, .func (PySem.W.fnOf "scores" "scores" (defArgs (topS 8)) (defBody (topS 8)) (defScope (topS 8)) .none kV1 dc1 pm1 an1 cd1 ct1), sl1⟩) (c1 : PySem.W.codeIn K cd1 "scores" = true) (k1 : PySem.W.keepIn K (.ref f1) = true)
    {f2 : Addr} {od2 an2 : Option Addr} {sl2 : Array (Option Value)} {oc2 kV2 dc2 pm2 cd2 ct2 : Value}
    (a2 : PySem.W.nsIn K mainGlobals "turned_path" = some (some (.ref f2)))
    (l2 : K.lookup f2 = some ⟨oc2, od2, .func (PySem.W.fnOf "turned_path" "turned_path" (defArgs (topS 9)) (defBody (topS 9)) (defScope (topS 9)) .none kV2 dc2 pm2 an2 cd2 ct2), sl2⟩) (c2 : PySem.W.codeIn K cd2 "turned_path" = true) (k2 : PySem.W.keepIn K (.ref f2) = true)
    {f3 : Addr} {od3 an3 : Option Addr} {sl3 : Array (Option Value)} {oc3 kV3 dc3 pm3 cd3 ct3 : Value}
    (a3 : PySem.W.nsIn K mainGlobals "led_to" = some (some (.ref f3)))
    (l3 : K.lookup f3 = some ⟨oc3, od3, .func (PySem.W.fnOf "led_to" "led_to" (defArgs (topS 11)) (defBody (topS 11)) (defScope (topS 11)) .none kV3 dc3 pm3 an3 cd3 ct3), sl3⟩) (c3 : PySem.W.codeIn K cd3 "led_to" = true) (k3 : PySem.W.keepIn K (.ref f3) = true)
    {f4 : Addr} {od4 an4 : Option Addr} {sl4 : Array (Option Value)} {oc4 kV4 dc4 pm4 cd4 ct4 : Value}
    (a4 : PySem.W.nsIn K mainGlobals "directed" = some (some (.ref f4)))
    (l4 : K.lookup f4 = some ⟨oc4, od4, .func (PySem.W.fnOf "directed" "directed" (defArgs (topS 10)) (defBody (topS 10)) (defScope (topS 10)) .none kV4 dc4 pm4 an4 cd4 ct4), sl4⟩) (c4 : PySem.W.codeIn K cd4 "directed" = true) (k4 : PySem.W.keepIn K (.ref f4) = true)
    {f5 : Addr} {od5 an5 : Option Addr} {sl5 : Array (Option Value)} {oc5 kV5 dc5 pm5 cd5 ct5 : Value}
    (a5 : PySem.W.nsIn K mainGlobals "_law_start" = some (some (.ref f5)))
    (l5 : K.lookup f5 = some ⟨oc5, od5, .func (PySem.W.fnOf "_law_start" "_law_start" (defArgs (topS 13)) (defBody (topS 13)) (defScope (topS 13)) .none kV5 dc5 pm5 an5 cd5 ct5), sl5⟩) (c5 : PySem.W.codeIn K cd5 "_law_start" = true) (k5 : PySem.W.keepIn K (.ref f5) = true)
    {f6 : Addr} {od6 an6 : Option Addr} {sl6 : Array (Option Value)} {oc6 kV6 dc6 pm6 cd6 ct6 : Value}
    (a6 : PySem.W.nsIn K mainGlobals "_law_pick" = some (some (.ref f6)))
    (l6 : K.lookup f6 = some ⟨oc6, od6, .func (PySem.W.fnOf "_law_pick" "_law_pick" (defArgs (topS 14)) (defBody (topS 14)) (defScope (topS 14)) .none kV6 dc6 pm6 an6 cd6 ct6), sl6⟩) (c6 : PySem.W.codeIn K cd6 "_law_pick" = true) (k6 : PySem.W.keepIn K (.ref f6) = true)
    {f7 : Addr} {od7 an7 : Option Addr} {sl7 : Array (Option Value)} {oc7 kV7 dc7 pm7 cd7 ct7 : Value}
    (a7 : PySem.W.nsIn K mainGlobals "_law_same" = some (some (.ref f7)))
    (l7 : K.lookup f7 = some ⟨oc7, od7, .func (PySem.W.fnOf "_law_same" "_law_same" (defArgs (topS 15)) (defBody (topS 15)) (defScope (topS 15)) .none kV7 dc7 pm7 an7 cd7 ct7), sl7⟩) (c7 : PySem.W.codeIn K cd7 "_law_same" = true) (k7 : PySem.W.keepIn K (.ref f7) = true)
    {f8 : Addr} {od8 an8 : Option Addr} {sl8 : Array (Option Value)} {oc8 kV8 dc8 pm8 cd8 ct8 : Value}
    (a8 : PySem.W.nsIn K mainGlobals "_law_graph" = some (some (.ref f8)))
    (l8 : K.lookup f8 = some ⟨oc8, od8, .func (PySem.W.fnOf "_law_graph" "_law_graph" (defArgs (topS 16)) (defBody (topS 16)) (defScope (topS 16)) .none kV8 dc8 pm8 an8 cd8 ct8), sl8⟩) (c8 : PySem.W.codeIn K cd8 "_law_graph" = true) (k8 : PySem.W.keepIn K (.ref f8) = true)
    {f9 : Addr} {od9 an9 : Option Addr} {sl9 : Array (Option Value)} {oc9 kV9 dc9 pm9 cd9 ct9 : Value}
    (a9 : PySem.W.nsIn K mainGlobals "_law_sets" = some (some (.ref f9)))
    (l9 : K.lookup f9 = some ⟨oc9, od9, .func (PySem.W.fnOf "_law_sets" "_law_sets" (defArgs (topS 19)) (defBody (topS 19)) (defScope (topS 19)) .none kV9 dc9 pm9 an9 cd9 ct9), sl9⟩) (c9 : PySem.W.codeIn K cd9 "_law_sets" = true) (k9 : PySem.W.keepIn K (.ref f9) = true)
    {f10 : Addr} {od10 an10 : Option Addr} {sl10 : Array (Option Value)} {oc10 kV10 dc10 pm10 cd10 ct10 : Value}
    (a10 : PySem.W.nsIn K mainGlobals "_law_scores" = some (some (.ref f10)))
    (l10 : K.lookup f10 = some ⟨oc10, od10, .func (PySem.W.fnOf "_law_scores" "_law_scores" (defArgs (topS 20)) (defBody (topS 20)) (defScope (topS 20)) .none kV10 dc10 pm10 an10 cd10 ct10), sl10⟩) (c10 : PySem.W.codeIn K cd10 "_law_scores" = true) (k10 : PySem.W.keepIn K (.ref f10) = true)
    {f11 : Addr} {od11 an11 : Option Addr} {sl11 : Array (Option Value)} {oc11 kV11 dc11 pm11 cd11 ct11 : Value}
    (a11 : PySem.W.nsIn K mainGlobals "_law_far" = some (some (.ref f11)))
    (l11 : K.lookup f11 = some ⟨oc11, od11, .func (PySem.W.fnOf "_law_far" "_law_far" (defArgs (topS 21)) (defBody (topS 21)) (defScope (topS 21)) .none kV11 dc11 pm11 an11 cd11 ct11), sl11⟩) (c11 : PySem.W.codeIn K cd11 "_law_far" = true) (k11 : PySem.W.keepIn K (.ref f11) = true)
    {f12 : Addr} {od12 an12 : Option Addr} {sl12 : Array (Option Value)} {oc12 kV12 dc12 pm12 cd12 ct12 : Value}
    (a12 : PySem.W.findIn K (.ref C_Graphic) "__init__" = some (some (.ref f12))) (i12 : PySem.W.isFn K (.ref f12) = true)
    (l12 : K.lookup f12 = some ⟨oc12, od12, .func (PySem.W.fnOf "__init__" "Graphic.__init__" (defArgs (L2.inClass (topS 6) 0)) (defBody (L2.inClass (topS 6) 0)) (defScope (L2.inClass (topS 6) 0)) .none kV12 dc12 pm12 an12 cd12 ct12), sl12⟩) (c12 : PySem.W.codeIn K cd12 "Graphic.__init__" = true) (k12 : PySem.W.keepIn K (.ref f12) = true)
    {f13 : Addr} {od13 an13 : Option Addr} {sl13 : Array (Option Value)} {oc13 kV13 dc13 pm13 cd13 ct13 : Value}
    (a13 : PySem.W.nsIn K mainGlobals "_law_judged" = some (some (.ref f13)))
    (l13 : K.lookup f13 = some ⟨oc13, od13, .func (PySem.W.fnOf "_law_judged" "_law_judged" (defArgs (topS 22)) (defBody (topS 22)) (defScope (topS 22)) .none kV13 dc13 pm13 an13 cd13 ct13), sl13⟩) (c13 : PySem.W.codeIn K cd13 "_law_judged" = true) (k13 : PySem.W.keepIn K (.ref f13) = true)
    {f14 : Addr} {od14 an14 : Option Addr} {sl14 : Array (Option Value)} {oc14 kV14 dc14 pm14 cd14 ct14 : Value}
    (a14 : PySem.W.nsIn K mainGlobals "_law_drawn" = some (some (.ref f14)))
    (l14 : K.lookup f14 = some ⟨oc14, od14, .func (PySem.W.fnOf "_law_drawn" "_law_drawn" (defArgs (topS 23)) (defBody (topS 23)) (defScope (topS 23)) .none kV14 dc14 pm14 an14 cd14 ct14), sl14⟩) (c14 : PySem.W.codeIn K cd14 "_law_drawn" = true) (k14 : PySem.W.keepIn K (.ref f14) = true)
    {f15 : Addr} {od15 an15 : Option Addr} {sl15 : Array (Option Value)} {oc15 kV15 dc15 pm15 cd15 ct15 : Value}
    (a15 : PySem.W.nsIn K mainGlobals "_law_bent" = some (some (.ref f15)))
    (l15 : K.lookup f15 = some ⟨oc15, od15, .func (PySem.W.fnOf "_law_bent" "_law_bent" (defArgs (topS 24)) (defBody (topS 24)) (defScope (topS 24)) .none kV15 dc15 pm15 an15 cd15 ct15), sl15⟩) (c15 : PySem.W.codeIn K cd15 "_law_bent" = true) (k15 : PySem.W.keepIn K (.ref f15) = true)
    {f16 : Addr} {od16 an16 : Option Addr} {sl16 : Array (Option Value)} {oc16 kV16 dc16 pm16 cd16 ct16 : Value}
    (a16 : PySem.W.nsIn K mainGlobals "law" = some (some (.ref f16)))
    (l16 : K.lookup f16 = some ⟨oc16, od16, .func (PySem.W.fnOf "law" "law" (defArgs (topS 25)) (defBody (topS 25)) (defScope (topS 25)) .none kV16 dc16 pm16 an16 cd16 ct16), sl16⟩) (c16 : PySem.W.codeIn K cd16 "law" = true) (k16 : PySem.W.keepIn K (.ref f16) = true)
    (z_len : PySem.W.nsIn K mainGlobals "len" = some none)
    (z_abs : PySem.W.nsIn K mainGlobals "abs" = some none)
    (z_int : PySem.W.nsIn K mainGlobals "int" = some none)
    (z_range : PySem.W.nsIn K mainGlobals "range" = some none)
    (z_list : PySem.W.nsIn K mainGlobals "list" = some none)
    (z_tuple : PySem.W.nsIn K mainGlobals "tuple" = some none)
    (z_sorted : PySem.W.nsIn K mainGlobals "sorted" = some none)
    (z_min : PySem.W.nsIn K mainGlobals "min" = some none)
    (z_max : PySem.W.nsIn K mainGlobals "max" = some none)
    (z_sum : PySem.W.nsIn K mainGlobals "sum" = some none)
    (z_any : PySem.W.nsIn K mainGlobals "any" = some none)
    (z_all : PySem.W.nsIn K mainGlobals "all" = some none)
    (z_isinstance : PySem.W.nsIn K mainGlobals "isinstance" = some none)
    (z_set : PySem.W.nsIn K mainGlobals "set" = some none)
    (z_bool : PySem.W.nsIn K mainGlobals "bool" = some none)
    (z_str : PySem.W.nsIn K mainGlobals "str" = some none)
    (z_dict : PySem.W.nsIn K mainGlobals "dict" = some none)
    (z_zip : PySem.W.nsIn K mainGlobals "zip" = some none)
    (z_enumerate : PySem.W.nsIn K mainGlobals "enumerate" = some none)
    (z_reversed : PySem.W.nsIn K mainGlobals "reversed" = some none)
    : ∃ fd : FuncData, (∀ (s : Shared) (v : Value), BindsTo s fd ⟨[v], []⟩ [("script", v)]) ∧ ∀ base : Heap, K.In base → base.Ns mainGlobals mg → FnOk l.prog w K mg base CX0 6 fa fd ["script"] (spLawD K 63) := by
  have e := hfa.symm.trans (PySem.W.mg_of X G a16)
  cases e
  have M : NoG mg := ⟨PySem.W.mg_none_of X G z_len, PySem.W.mg_none_of X G z_abs, PySem.W.mg_none_of X G z_int, PySem.W.mg_none_of X G z_range, PySem.W.mg_none_of X G z_list, PySem.W.mg_none_of X G z_tuple, PySem.W.mg_none_of X G z_sorted, PySem.W.mg_none_of X G z_min, PySem.W.mg_none_of X G z_max, PySem.W.mg_none_of X G z_sum, PySem.W.mg_none_of X G z_any, PySem.W.mg_none_of X G z_all, PySem.W.mg_none_of X G z_isinstance, PySem.W.mg_none_of X G z_set, PySem.W.mg_none_of X G z_bool, PySem.W.mg_none_of X G z_str, PySem.W.mg_none_of X G z_dict, PySem.W.mg_none_of X G z_zip, PySem.W.mg_none_of X G z_enumerate, PySem.W.mg_none_of X G z_reversed⟩
  have h_Graphic : (fun c : Str => if c = "Graphic" then C_Graphic else 0) "Graphic" = C_Graphic := by
    dsimp only
    rw [if_pos rfl]
  have A_edges : ClsF ⟨K, (fun c : Str => if c = "Graphic" then C_Graphic else 0)⟩ ["Graphic"] "edges" := fun c hc => by
    simp only [List.mem_cons, List.mem_nil_iff, List.not_mem_nil, or_false] at hc
    rcases hc with rfl
    · show Cls K ((fun c : Str => if c = "Graphic" then C_Graphic else 0) "Graphic") ∧ NoAttr K ((fun c : Str => if c = "Graphic" then C_Graphic else 0) "Graphic") "edges"; rw [h_Graphic]; exact ⟨⟨pg_Graphic, hd_Graphic, po_Graphic, sa_Graphic⟩, n_Graphic_edges⟩
  have A_size : ClsF ⟨K, (fun c : Str => if c = "Graphic" then C_Graphic else 0)⟩ ["Graphic"] "size" := fun c hc => by
    simp only [List.mem_cons, List.mem_nil_iff, List.not_mem_nil, or_false] at hc
    rcases hc with rfl
    · show Cls K ((fun c : Str => if c = "Graphic" then C_Graphic else 0) "Graphic") ∧ NoAttr K ((fun c : Str => if c = "Graphic" then C_Graphic else 0) "Graphic") "size"; rw [h_Graphic]; exact ⟨⟨pg_Graphic, hd_Graphic, po_Graphic, sa_Graphic⟩, n_Graphic_size⟩
  have A_vertices : ClsF ⟨K, (fun c : Str => if c = "Graphic" then C_Graphic else 0)⟩ ["Graphic"] "vertices" := fun c hc => by
    simp only [List.mem_cons, List.mem_nil_iff, List.not_mem_nil, or_false] at hc
    rcases hc with rfl
    · show Cls K ((fun c : Str => if c = "Graphic" then C_Graphic else 0) "Graphic") ∧ NoAttr K ((fun c : Str => if c = "Graphic" then C_Graphic else 0) "Graphic") "vertices"; rw [h_Graphic]; exact ⟨⟨pg_Graphic, hd_Graphic, po_Graphic, sa_Graphic⟩, n_Graphic_vertices⟩
  have F0 := fun_mk (st := (topS 5)) l0 c0 k0
  have D_graph_breach : Df K mg "graph_breach" (topS 5) ["vertices", "edges"] := .mk' F0 (PySem.W.mg_of X G a0) (F0.binds (ps := ["vertices", "edges"]) fun _ _ _ _ _ _ us hl => match us, hl with | [_, _], _ => rfl)
  have F1 := fun_mk (st := (topS 8)) l1 c1 k1
  have D_scores : Df K mg "scores" (topS 8) ["graph", "heads"] := .mk' F1 (PySem.W.mg_of X G a1) (F1.binds (ps := ["graph", "heads"]) fun _ _ _ _ _ _ us hl => match us, hl with | [_, _], _ => rfl)
  have F2 := fun_mk (st := (topS 9)) l2 c2 k2
  have D_turned_path : Df K mg "turned_path" (topS 9) ["graph", "heads", "first", "last"] := .mk' F2 (PySem.W.mg_of X G a2) (F2.binds (ps := ["graph", "heads", "first", "last"]) fun _ _ _ _ _ _ us hl => match us, hl with | [_, _, _, _], _ => rfl)
  have F3 := fun_mk (st := (topS 11)) l3 c3 k3
  have D_led_to : Df K mg "led_to" (topS 11) ["graph", "heads", "first"] := .mk' F3 (PySem.W.mg_of X G a3) (F3.binds (ps := ["graph", "heads", "first"]) fun _ _ _ _ _ _ us hl => match us, hl with | [_, _, _], _ => rfl)
  have F4 := fun_mk (st := (topS 10)) l4 c4 k4
  have D_directed : Df K mg "directed" (topS 10) ["graph", "row"] := .mk' F4 (PySem.W.mg_of X G a4) (F4.binds (ps := ["graph", "row"]) fun _ _ _ _ _ _ us hl => match us, hl with | [_, _], _ => rfl)
  have F5 := fun_mk (st := (topS 13)) l5 c5 k5
  have D__law_start : Df K mg "_law_start" (topS 13) ["script"] := .mk' F5 (PySem.W.mg_of X G a5) (F5.binds (ps := ["script"]) fun _ _ _ _ _ _ us hl => match us, hl with | [_], _ => rfl)
  have F6 := fun_mk (st := (topS 14)) l6 c6 k6
  have D__law_pick : Df K mg "_law_pick" (topS 14) ["state", "limit"] := .mk' F6 (PySem.W.mg_of X G a6) (F6.binds (ps := ["state", "limit"]) fun _ _ _ _ _ _ us hl => match us, hl with | [_, _], _ => rfl)
  have F7 := fun_mk (st := (topS 15)) l7 c7 k7
  have D__law_same : Df K mg "_law_same" (topS 15) ["told", "due"] := .mk' F7 (PySem.W.mg_of X G a7) (F7.binds (ps := ["told", "due"]) fun _ _ _ _ _ _ us hl => match us, hl with | [_, _], _ => rfl)
  have F8 := fun_mk (st := (topS 16)) l8 c8 k8
  have D__law_graph : Df K mg "_law_graph" (topS 16) ["state", "most", "many"] := .mk' F8 (PySem.W.mg_of X G a8) (F8.binds (ps := ["state", "most", "many"]) fun _ _ _ _ _ _ us hl => match us, hl with | [_, _, _], _ => rfl)
  have F9 := fun_mk (st := (topS 19)) l9 c9 k9
  have D__law_sets : Df K mg "_law_sets" (topS 19) ["size"] := .mk' F9 (PySem.W.mg_of X G a9) (F9.binds (ps := ["size"]) fun _ _ _ _ _ _ us hl => match us, hl with | [_], _ => rfl)
  have F10 := fun_mk (st := (topS 20)) l10 c10 k10
  have D__law_scores : Df K mg "_law_scores" (topS 20) ["vertices", "edges", "heads"] := .mk' F10 (PySem.W.mg_of X G a10) (F10.binds (ps := ["vertices", "edges", "heads"]) fun _ _ _ _ _ _ us hl => match us, hl with | [_, _, _], _ => rfl)
  have F11 := fun_mk (st := (topS 21)) l11 c11 k11
  have D__law_far : Df K mg "_law_far" (topS 21) ["edges", "heads", "first"] := .mk' F11 (PySem.W.mg_of X G a11) (F11.binds (ps := ["edges", "heads", "first"]) fun _ _ _ _ _ _ us hl => match us, hl with | [_, _, _], _ => rfl)
  have F12 := fun_mk (st := (L2.inClass (topS 6) 0)) l12 c12 k12
  have D_Graphic__init : Dc K mg (fun c : Str => if c = "Graphic" then C_Graphic else 0) "Graphic" "Graphic.__init__" (L2.inClass (topS 6) 0) ["self", "vertices", "edges"] := .mk' h_Graphic ⟨mk_Graphic, a12, i12, kc_Graphic⟩ F12 (PySem.W.mg_of X G ca_Graphic) (F12.binds (ps := ["self", "vertices", "edges"]) fun _ _ _ _ _ _ us hl => match us, hl with | [_, _, _], _ => rfl)
  have F13 := fun_mk (st := (topS 22)) l13 c13 k13
  have D__law_judged : Df K mg "_law_judged" (topS 22) ["vertices", "edges", "row"] := .mk' F13 (PySem.W.mg_of X G a13) (F13.binds (ps := ["vertices", "edges", "row"]) fun _ _ _ _ _ _ us hl => match us, hl with | [_, _, _], _ => rfl)
  have F14 := fun_mk (st := (topS 23)) l14 c14 k14
  have D__law_drawn : Df K mg "_law_drawn" (topS 23) ["state", "edges"] := .mk' F14 (PySem.W.mg_of X G a14) (F14.binds (ps := ["state", "edges"]) fun _ _ _ _ _ _ us hl => match us, hl with | [_, _], _ => rfl)
  have F15 := fun_mk (st := (topS 24)) l15 c15 k15
  have D__law_bent : Df K mg "_law_bent" (topS 24) ["state", "row"] := .mk' F15 (PySem.W.mg_of X G a15) (F15.binds (ps := ["state", "row"]) fun _ _ _ _ _ _ us hl => match us, hl with | [_, _], _ => rfl)
  have F16 := fun_mk (st := (topS 25)) l16 c16 k16
  have D_law : Df K mg "law" (topS 25) ["script"] := .mk' F16 (PySem.W.mg_of X G a16) (F16.binds (ps := ["script"]) fun _ _ _ _ _ _ us hl => match us, hl with | [_], _ => rfl)
  refine ⟨PySem.W.fnOf "law" "law" (defArgs (topS 25)) (defBody (topS 25)) (defScope (topS 25)) .none kV16 dc16 pm16 an16 cd16 ct16, fun s v => .of_eq rfl, fun base _ _ => ?_⟩
  have C_graph_breach : CallOk l.prog w K mg base ⟨K, (fun c : Str => if c = "Graphic" then C_Graphic else 0)⟩ 1 "graph_breach" ["vertices", "edges"] false m_graph_breach := ok_graph_breach M D_graph_breach
  have C_scores : CallOk l.prog w K mg base ⟨K, (fun c : Str => if c = "Graphic" then C_Graphic else 0)⟩ 1 "scores" ["graph", "heads"] false m_scores := ok_scores M D_scores A_edges A_size A_vertices
  have C_turned_path : CallOk l.prog w K mg base ⟨K, (fun c : Str => if c = "Graphic" then C_Graphic else 0)⟩ 1 "turned_path" ["graph", "heads", "first", "last"] false m_turned_path := ok_turned_path M D_turned_path A_edges A_size
  have C_led_to : CallOk l.prog w K mg base ⟨K, (fun c : Str => if c = "Graphic" then C_Graphic else 0)⟩ 1 "led_to" ["graph", "heads", "first"] false m_led_to := ok_led_to M D_led_to A_edges A_size
  have C_directed : CallOk l.prog w K mg base ⟨K, (fun c : Str => if c = "Graphic" then C_Graphic else 0)⟩ 2 "directed" ["graph", "row"] false m_directed := ok_directed M D_directed C_scores C_turned_path C_led_to A_edges A_size A_vertices
  have C__law_start : CallOk l.prog w K mg base ⟨K, (fun c : Str => if c = "Graphic" then C_Graphic else 0)⟩ 1 "_law_start" ["script"] true m__law_start := ok__law_start M D__law_start
  have C__law_pick : CallOk l.prog w K mg base ⟨K, (fun c : Str => if c = "Graphic" then C_Graphic else 0)⟩ 1 "_law_pick" ["state", "limit"] false m__law_pick := ok__law_pick M D__law_pick
  have C__law_same : CallOk l.prog w K mg base ⟨K, (fun c : Str => if c = "Graphic" then C_Graphic else 0)⟩ 5 "_law_same" ["told", "due"] false (m__law_same 5) := ok__law_same M D__law_same 5
  have C__law_graph : CallOk l.prog w K mg base ⟨K, (fun c : Str => if c = "Graphic" then C_Graphic else 0)⟩ 2 "_law_graph" ["state", "most", "many"] false m__law_graph := ok__law_graph M D__law_graph C__law_pick
  have C__law_sets : CallOk l.prog w K mg base ⟨K, (fun c : Str => if c = "Graphic" then C_Graphic else 0)⟩ 1 "_law_sets" ["size"] false m__law_sets := ok__law_sets M D__law_sets
  have C__law_scores : CallOk l.prog w K mg base ⟨K, (fun c : Str => if c = "Graphic" then C_Graphic else 0)⟩ 1 "_law_scores" ["vertices", "edges", "heads"] false m__law_scores := ok__law_scores M D__law_scores
  have C__law_far : CallOk l.prog w K mg base ⟨K, (fun c : Str => if c = "Graphic" then C_Graphic else 0)⟩ 1 "_law_far" ["edges", "heads", "first"] false m__law_far := ok__law_far M D__law_far
  have C_Graphic__init : MakeOk l.prog w K mg base ⟨K, (fun c : Str => if c = "Graphic" then C_Graphic else 0)⟩ 2 "Graphic" ["self", "vertices", "edges"] m_Graphic__init := ok_Graphic__init M D_Graphic__init C_graph_breach A_edges A_size A_vertices
  have C__law_judged : CallOk l.prog w K mg base ⟨K, (fun c : Str => if c = "Graphic" then C_Graphic else 0)⟩ 4 "_law_judged" ["vertices", "edges", "row"] false m__law_judged := ok__law_judged M D__law_judged C_Graphic__init C_directed C__law_scores
  have C__law_drawn : CallOk l.prog w K mg base ⟨K, (fun c : Str => if c = "Graphic" then C_Graphic else 0)⟩ 2 "_law_drawn" ["state", "edges"] false m__law_drawn := ok__law_drawn M D__law_drawn C__law_pick
  have C__law_bent : CallOk l.prog w K mg base ⟨K, (fun c : Str => if c = "Graphic" then C_Graphic else 0)⟩ 2 "_law_bent" ["state", "row"] false m__law_bent := ok__law_bent M D__law_bent C__law_pick
  exact (fn_law (cls := (fun c : Str => if c = "Graphic" then C_Graphic else 0)) M F16 C_Graphic__init C_scores C_turned_path C_directed C_led_to C__law_start C__law_pick C__law_same C__law_graph C__law_sets C__law_scores C__law_far C__law_judged C__law_drawn C__law_bent).imp fun _ _ _ _ s => law_spC LT s
end K59

namespace K59
/-! ### counts and sums -/
def tl (e : Nat → Nat × Nat) (h : Nat → Nat) (k : Nat) : Nat := (e k).1 + (e k).2 - h k
/-- how many k below m -/
def cntS (c : Nat → Bool) : Nat → Nat
  | 0 => 0
  | m + 1 => cntS c m + if c m = true then 1 else 0
def cnt (t : Nat → Nat) (m v : Nat) : Nat := cntS (fun k => t k == v) m
theorem cntS_le {c c' : Nat → Bool} : ∀ {m : Nat}, (∀ k, k < m → c k = true → c' k = true) → cntS c m ≤ cntS c' m
  | 0, _ => Nat.le_refl _
  | m + 1, h => by
    have ih := cntS_le (m := m) fun k hk => h k (by omega)
    have h1 := h m (by omega)
    unfold cntS
    by_cases hc : c m = true
    · rw [if_pos hc, if_pos (h1 hc)]; omega
    · rw [if_neg hc]; omega
theorem cntS_congr {c c' : Nat → Bool} {m : Nat} (h : ∀ k, k < m → c k = c' k) : cntS c m = cntS c' m :=
  Nat.le_antisymm (cntS_le fun k hk z => by rw [← h k hk]; exact z) (cntS_le fun k hk z => by rw [h k hk]; exact z)
theorem cntS_upd {c c' : Nat → Bool} {j : Nat} : ∀ {m : Nat}, j < m → (∀ k, k < m → k ≠ j → c k = c' k) → cntS c' m + (if c j = true then 1 else 0) = cntS c m + if c' j = true then 1 else 0
  | m + 1, hj, h => by
    unfold cntS
    by_cases e : j = m
    · subst e
      have := cntS_congr (c := c) (c' := c') (m := j) fun k hk => h k (by omega) (by omega)
      omega
    · have ih := cntS_upd (c := c) (c' := c') (m := m) (j := j) (by omega) fun k hk => h k (by omega)
      rw [h m (by omega) (by omega)]
      omega
theorem cntS_all {c : Nat → Bool} : ∀ {m : Nat}, (∀ k, k < m → c k = true) → cntS c m = m
  | 0, _ => rfl
  | m + 1, h => by
    unfold cntS
    rw [cntS_all (m := m) fun k hk => h k (by omega), if_pos (h m (by omega))]
theorem cntS_none {c : Nat → Bool} : ∀ {m : Nat}, (∀ k, k < m → c k = false) → cntS c m = 0
  | 0, _ => rfl
  | m + 1, h => by
    unfold cntS
    rw [cntS_none (m := m) fun k hk => h k (by omega), if_neg (by rw [h m (by omega)]; decide)]
theorem cntS_self (c : Nat → Bool) : ∀ m, cntS c m ≤ m
  | 0 => Nat.le_refl _
  | m + 1 => by
    have := cntS_self c m
    unfold cntS
    split <;> omega
theorem cntS_filter (c : Nat → Bool) : ∀ m, ((List.range m).filter c).length = cntS c m
  | 0 => rfl
  | m + 1 => by
    rw [List.range_succ, List.filter_append, List.length_append, cntS_filter c m, show cntS c (m + 1) = cntS c m + if c m = true then 1 else 0 from rfl]
    by_cases h : c m = true
    · simp [h]
    · simp [h]
def sumL (K : List Nat) (f : Nat → Int) : Int := (K.map f).sum
theorem sumL_cons (x : Nat) (K : List Nat) (f : Nat → Int) : sumL (x :: K) f = f x + sumL K f := by simp [sumL]
theorem sumL_le {f g : Nat → Int} : ∀ {K : List Nat}, (∀ v ∈ K, f v ≤ g v) → sumL K f ≤ sumL K g
  | [], _ => Int.le_refl _
  | x :: K, h => by
    have ih := sumL_le (K := K) fun v hv => h v (List.mem_cons_of_mem _ hv)
    have := h x List.mem_cons_self
    rw [sumL_cons, sumL_cons]
    omega
theorem sumL_lt {f g : Nat → Int} : ∀ {K : List Nat}, (∀ v ∈ K, f v ≤ g v) → ∀ {x : Nat}, x ∈ K → f x < g x → sumL K f < sumL K g
  | y :: K, h, x, hx, hl => by
    have h1 := h y List.mem_cons_self
    have h2 : ∀ v ∈ K, f v ≤ g v := fun v hv => h v (List.mem_cons_of_mem _ hv)
    rw [sumL_cons, sumL_cons]
    rcases List.mem_cons.mp hx with e | hx
    · subst e
      have := sumL_le h2
      omega
    · have := sumL_lt h2 hx hl
      omega
theorem sumL_add (f g : Nat → Int) : ∀ K : List Nat, sumL K (fun v => f v + g v) = sumL K f + sumL K g
  | [] => rfl
  | x :: K => by
    rw [sumL_cons, sumL_cons, sumL_cons, sumL_add f g K]
    omega
theorem sumL_congr {f g : Nat → Int} {K : List Nat} (h : ∀ v ∈ K, f v = g v) : sumL K f = sumL K g := by
  unfold sumL
  rw [List.map_congr_left h]
theorem sumL_zero (K : List Nat) : sumL K (fun _ => 0) = 0 := by
  induction K with
  | nil => rfl
  | cons x K ih => rw [sumL_cons, ih]; rfl
theorem sumL_ind (x : Nat) : ∀ {K : List Nat}, K.Nodup → sumL K (fun v => if x = v then 1 else 0) = if x ∈ K then 1 else 0
  | [], _ => rfl
  | y :: K, h => by
    obtain ⟨h1, h2⟩ := List.nodup_cons.mp h
    rw [sumL_cons, sumL_ind x h2]
    by_cases e : x = y
    · subst e
      rw [if_pos rfl, if_neg h1, if_pos List.mem_cons_self]
      rfl
    · rw [if_neg e]
      by_cases hx : x ∈ K
      · rw [if_pos hx, if_pos (List.mem_cons_of_mem _ hx)]
        rfl
      · rw [if_neg hx, if_neg fun z => (List.mem_cons.mp z).elim e hx]
        rfl
theorem sumL_cnt {K : List Nat} (nd : K.Nodup) (t : Nat → Nat) : ∀ m, sumL K (fun v => (cnt t m v : Int)) = (cntS (fun k => decide (t k ∈ K)) m : Nat)
  | 0 => sumL_zero K
  | m + 1 => by
    have e : sumL K (fun v => (cnt t (m + 1) v : Int)) = sumL K fun v => (cnt t m v : Int) + if t m = v then 1 else 0 := by
      refine sumL_congr fun v _ => ?_
      unfold cnt
      rw [cntS]
      by_cases h : t m = v
      · simp [h]
      · simp [h]
    rw [e, sumL_add, sumL_cnt nd t m, sumL_ind (t m) nd, cntS]
    by_cases h : t m ∈ K
    · simp [h]
    · simp [h]
/-- a graph's edges, a head for each -/
def GrOk (n m : Nat) (e : Nat → Nat × Nat) : Prop := ∀ k, k < m → (e k).1 ≤ (e k).2 ∧ (e k).2 < n
def HdOk (m : Nat) (e : Nat → Nat × Nat) (h : Nat → Nat) : Prop := ∀ k, k < m → h k = (e k).1 ∨ h k = (e k).2
section
variable {n m : Nat} {e : Nat → Nat × Nat} {h : Nat → Nat}
theorem tl_ends (H : HdOk m e h) {k : Nat} (hk : k < m) : (h k = (e k).1 ∧ tl e h k = (e k).2) ∨ (h k = (e k).2 ∧ tl e h k = (e k).1) := by
  unfold tl
  rcases H k hk with z | z
  · exact .inl ⟨z, by omega⟩
  · exact .inr ⟨z, by omega⟩
theorem tl_lt (G : GrOk n m e) (H : HdOk m e h) {k : Nat} (hk : k < m) : tl e h k < n ∧ h k < n := by
  have := G k hk
  rcases tl_ends H hk with ⟨a, b⟩ | ⟨a, b⟩ <;> omega
/-- edges inside -/
def ins (e : Nat → Nat × Nat) (K : List Nat) (k : Nat) : Bool := decide ((e k).1 ∈ K) && decide ((e k).2 ∈ K)
theorem ins_le (H : HdOk m e h) (K : List Nat) : cntS (ins e K) m ≤ cntS (fun k => decide (tl e h k ∈ K)) m := by
  refine cntS_le fun k hk z => ?_
  simp only [ins, Bool.and_eq_true, decide_eq_true_eq] at z
  rcases tl_ends H hk with ⟨_, b⟩ | ⟨_, b⟩
  · rw [b]; exact decide_eq_true z.2
  · rw [b]; exact decide_eq_true z.1
theorem ins_closed (H : HdOk m e h) {K : List Nat} (C : ∀ k, k < m → tl e h k ∈ K → h k ∈ K) : cntS (ins e K) m = cntS (fun k => decide (tl e h k ∈ K)) m := by
  refine Nat.le_antisymm (ins_le H K) (cntS_le fun k hk z => ?_)
  have z1 := of_decide_eq_true z
  have z2 := C k hk z1
  rcases tl_ends H hk with ⟨a, b⟩ | ⟨a, b⟩
  · rw [b] at z1; rw [a] at z2; simp [ins, z1, z2]
  · rw [b] at z1; rw [a] at z2; simp [ins, z1, z2]
theorem sum_all (G : GrOk n m e) (H : HdOk m e h) : sumL (List.range n) (fun v => (cnt (tl e h) m v : Int)) = m := by
  rw [sumL_cnt List.nodup_range, cntS_all fun k hk => decide_eq_true (List.mem_range.mpr (tl_lt G H hk).1)]
end
/-! ### search, first come first -/
structure En where
  v : Nat
  p : Nat
  k : Nat
  d : Nat
def kys (Q : List En) : List Nat := Q.map En.v
def bStep (t h : Nat → Nat) (z : En) (Q : List En) (k : Nat) : List En := if t k = z.v ∧ h k ∉ kys Q then Q ++ [⟨h k, z.v, k, z.d + 1⟩] else Q
def bTurn (t h : Nat → Nat) (m : Nat) (Q : List En) (z : En) : List En := (List.range m).foldl (bStep t h z) Q
def bRun (t h : Nat → Nat) (m : Nat) : Nat → List En → Nat → List En
  | 0, Q, _ => Q
  | f + 1, Q, i => match Q[i]? with
    | some z => bRun t h m f (bTurn t h m Q z) (i + 1)
    | none => Q
def tRun (t h : Nat → Nat) (m last : Nat) : Nat → List En → Nat → List En
  | 0, Q, _ => Q
  | f + 1, Q, i => match Q[i]? with
    | some z => if last ∈ kys Q then Q else tRun t h m last f (bTurn t h m Q z) (i + 1)
    | none => Q
def root (first : Nat) : En := ⟨first, 0, 0, 0⟩
structure Gd (n m : Nat) (t h : Nat → Nat) (first : Nat) (Q : List En) : Prop where
  nd : (kys Q).Nodup
  lt : ∀ x ∈ Q, x.v < n
  rt : root first ∈ Q
  par : ∀ x ∈ Q, x = root first ∨ (x.k < m ∧ t x.k = x.p ∧ h x.k = x.v ∧ ∃ y ∈ Q, y.v = x.p ∧ y.d + 1 = x.d)
  dep : ∀ (j : Nat) (x : En), Q[j]? = some x → x.d ≤ j
section
variable {n m : Nat} {t h : Nat → Nat} {first : Nat}
theorem Gd.one (hf : first < n) : Gd n m t h first [root first] := by
  refine ⟨by simp [kys], fun x hx => ?_, by simp, fun x hx => ?_, fun j x hx => ?_⟩
  · rw [List.mem_singleton.mp hx]; exact hf
  · exact .inl (List.mem_singleton.mp hx)
  · cases j with
    | zero => cases hx; exact Nat.le_refl 0
    | succ j => simp at hx
theorem kys_mem {Q : List En} {v : Nat} : v ∈ kys Q ↔ ∃ x ∈ Q, x.v = v := by simp [kys]
theorem Gd.inj {Q : List En} (g : Gd n m t h first Q) {x y : En} (hx : x ∈ Q) (hy : y ∈ Q) (e : x.v = y.v) : x = y := by
  have key : ∀ {Q : List En}, (kys Q).Nodup → x ∈ Q → y ∈ Q → x = y := by
    intro Q
    induction Q with
    | nil => intro _ h; cases h
    | cons z Q ih =>
      intro nd hx hy
      obtain ⟨n1, n2⟩ := List.nodup_cons.mp (show (z.v :: kys Q).Nodup from nd)
      rcases List.mem_cons.mp hx with a | a
      · rcases List.mem_cons.mp hy with b | b
        · rw [a, b]
        · exact absurd (kys_mem.mpr ⟨y, b, by rw [← e, a]⟩) n1
      · rcases List.mem_cons.mp hy with b | b
        · exact absurd (kys_mem.mpr ⟨x, a, by rw [e, b]⟩) n1
        · exact ih n2 a b
  exact key g.nd hx hy
theorem Gd.len {Q : List En} (g : Gd n m t h first Q) : Q.length ≤ n := by
  have h1 : (kys Q).length = Q.length := by simp [kys]
  have h2 : ∀ v ∈ kys Q, v < n := fun v hv => by
    obtain ⟨x, hx, e⟩ := kys_mem.mp hv
    rw [← e]; exact g.lt x hx
  have key : ∀ (n : Nat) (K : List Nat), K.Nodup → (∀ v ∈ K, v < n) → K.length ≤ n := by
    intro n
    induction n with
    | zero => intro K _ hK; cases K with
      | nil => exact Nat.le_refl _
      | cons a K => exact absurd (hK a List.mem_cons_self) (by omega)
    | succ n ih =>
      intro K nd hK
      have h3 := ih (K.erase n) (nd.erase n) fun v hv => by
        have := (nd.mem_erase_iff).mp hv
        have := hK v this.2
        omega
      rw [List.length_erase] at h3
      split at h3 <;> omega
  have := key n (kys Q) g.nd h2
  omega
theorem bStep_pre (z : En) (Q : List En) (k : Nat) : ∃ R, bStep t h z Q k = Q ++ R := by
  unfold bStep
  split
  · exact ⟨_, rfl⟩
  · exact ⟨[], by simp⟩
theorem foldl_pre (z : En) : ∀ (ks : List Nat) (Q : List En), ∃ R, ks.foldl (bStep t h z) Q = Q ++ R
  | [], Q => ⟨[], by simp⟩
  | k :: ks, Q => by
    obtain ⟨R1, e1⟩ := bStep_pre (t := t) (h := h) z Q k
    obtain ⟨R2, e2⟩ := foldl_pre z ks (bStep t h z Q k)
    exact ⟨R1 ++ R2, by rw [List.foldl_cons, e2, e1, List.append_assoc]⟩
theorem Gd.step {Q : List En} (g : Gd n m t h first Q) {z : En} (hz : z ∈ Q) {k : Nat} (hk : k < m) (hh : h k < n) : Gd n m t h first (bStep t h z Q k) ∧ z ∈ bStep t h z Q k := by
  unfold bStep
  split
  · rename_i c
    obtain ⟨c1, c2⟩ := c
    refine ⟨⟨?_, fun x hx => ?_, List.mem_append_left _ g.rt, fun x hx => ?_, fun j x hx => ?_⟩, List.mem_append_left _ hz⟩
    · have e : kys (Q ++ [⟨h k, z.v, k, z.d + 1⟩]) = kys Q ++ [h k] := by simp [kys]
      rw [e, List.nodup_append]
      refine ⟨g.nd, by simp, fun a ha b hb => ?_⟩
      rw [List.mem_singleton.mp hb]
      exact fun e => c2 (e ▸ ha)
    · rcases List.mem_append.mp hx with hx | hx
      · exact g.lt x hx
      · rw [List.mem_singleton.mp hx]; exact hh
    · rcases List.mem_append.mp hx with hx | hx
      · rcases g.par x hx with a | ⟨a, b, c, y, d1, d2⟩
        · exact .inl a
        · exact .inr ⟨a, b, c, y, List.mem_append_left _ d1, d2⟩
      · rw [List.mem_singleton.mp hx]
        exact .inr ⟨hk, c1, rfl, z, List.mem_append_left _ hz, rfl, rfl⟩
    · by_cases hj : j < Q.length
      · rw [List.getElem?_append_left hj] at hx
        exact g.dep j x hx
      · rw [List.getElem?_append_right (by omega)] at hx
        obtain ⟨i, hi⟩ := List.getElem?_of_mem hz
        have h1 := g.dep i z hi
        have h2 : i < Q.length := by
          rcases Nat.lt_or_ge i Q.length with a | a
          · exact a
          · rw [List.getElem?_eq_none a] at hi; cases hi
        match hq : j - Q.length with
        | 0 => rw [hq] at hx; cases hx; dsimp only; omega
        | q + 1 => rw [hq] at hx; simp at hx
  · exact ⟨g, hz⟩
theorem Gd.fold (hh : ∀ k, k < m → h k < n) {z : En} : ∀ (ks : List Nat) (Q : List En), (∀ k ∈ ks, k < m) → Gd n m t h first Q → z ∈ Q → Gd n m t h first (ks.foldl (bStep t h z) Q)
  | [], Q, _, g, _ => g
  | k :: ks, Q, hk, g, hz => by
    have h1 := hk k List.mem_cons_self
    obtain ⟨g1, hz1⟩ := g.step hz h1 (hh k h1)
    exact Gd.fold hh ks _ (fun j hj => hk j (List.mem_cons_of_mem _ hj)) g1 hz1
theorem Gd.turn (hh : ∀ k, k < m → h k < n) {Q : List En} (g : Gd n m t h first Q) {z : En} (hz : z ∈ Q) : Gd n m t h first (bTurn t h m Q z) :=
  Gd.fold hh _ Q (fun k hk => List.mem_range.mp hk) g hz
theorem pre_mem {Q R : List En} {v : Nat} (hv : v ∈ kys Q) : v ∈ kys (Q ++ R) := by
  obtain ⟨x, hx, e⟩ := kys_mem.mp hv
  exact kys_mem.mpr ⟨x, List.mem_append_left _ hx, e⟩
theorem fold_closed (z : En) : ∀ (ks : List Nat) (Q : List En), ∀ k ∈ ks, t k = z.v → h k ∈ kys (ks.foldl (bStep t h z) Q)
  | j :: ks, Q, k, hk, e => by
    rw [List.foldl_cons]
    rcases List.mem_cons.mp hk with a | a
    · subst a
      obtain ⟨R, er⟩ := foldl_pre (t := t) (h := h) z ks (bStep t h z Q k)
      rw [er]
      refine pre_mem ?_
      unfold bStep
      by_cases c : h k ∈ kys Q
      · rw [if_neg fun z => z.2 c]; exact c
      · rw [if_pos ⟨e, c⟩]
        exact kys_mem.mpr ⟨_, List.mem_append_right _ List.mem_cons_self, rfl⟩
    · exact fold_closed z ks _ k a e
/-- those before i lead nowhere else -/
def Cl (m : Nat) (t h : Nat → Nat) (i : Nat) (Q : List En) : Prop := ∀ j z, j < i → Q[j]? = some z → ∀ k, k < m → t k = z.v → h k ∈ kys Q
theorem Cl.turn {Q : List En} {i : Nat} {z : En} (c : Cl m t h i Q) (hz : Q[i]? = some z) : Cl m t h (i + 1) (bTurn t h m Q z) := by
  intro j y hj hy k hk e
  obtain ⟨R, er⟩ := foldl_pre (t := t) (h := h) z (List.range m) Q
  have hi : i < Q.length := by
    rcases Nat.lt_or_ge i Q.length with a | a
    · exact a
    · rw [List.getElem?_eq_none a] at hz; cases hz
  have hy' : Q[j]? = some y := by
    unfold bTurn at hy
    rw [er, List.getElem?_append_left (by omega)] at hy
    exact hy
  by_cases h2 : j = i
  · subst h2
    rw [hz] at hy'
    cases hy'
    exact fold_closed z _ Q k (List.mem_range.mpr hk) e
  · unfold bTurn
    rw [er]
    exact pre_mem (c j y (by omega) hy' k hk e)
theorem bRun_ok (hh : ∀ k, k < m → h k < n) : ∀ (f : Nat) (Q : List En) (i : Nat), Gd n m t h first Q → Cl m t h i Q → i ≤ Q.length → n ≤ i + f →
    Gd n m t h first (bRun t h m f Q i) ∧ Cl m t h (bRun t h m f Q i).length (bRun t h m f Q i) ∧ ∃ R, bRun t h m f Q i = Q ++ R
  | 0, Q, i, g, c, h1, h2 => by
    have := g.len
    unfold bRun
    exact ⟨g, by rw [show Q.length = i by omega]; exact c, [], by simp⟩
  | f + 1, Q, i, g, c, h1, h2 => by
    unfold bRun
    split
    · rename_i z hz
      have hi : i < Q.length := by
        rcases Nat.lt_or_ge i Q.length with a | a
        · exact a
        · rw [List.getElem?_eq_none a] at hz; cases hz
      obtain ⟨R, er⟩ := foldl_pre (t := t) (h := h) z (List.range m) Q
      have er : bTurn t h m Q z = Q ++ R := er
      obtain ⟨a, b, R2, e2⟩ := bRun_ok hh f (bTurn t h m Q z) (i + 1) (g.turn hh (List.mem_of_getElem? hz)) (c.turn hz) (by rw [er, List.length_append]; omega) (by omega)
      exact ⟨a, b, R ++ R2, by rw [e2, er, List.append_assoc]⟩
    · rename_i hz
      have hi : Q.length ≤ i := List.getElem?_eq_none_iff.mp hz
      exact ⟨g, by rw [show Q.length = i by omega]; exact c, [], by simp⟩
theorem tRun_ok (hh : ∀ k, k < m → h k < n) (last : Nat) : ∀ (f : Nat) (Q : List En) (i : Nat), Gd n m t h first Q → Cl m t h i Q → i ≤ Q.length → n ≤ i + f →
    Gd n m t h first (tRun t h m last f Q i) ∧ ∃ R, bRun t h m f Q i = tRun t h m last f Q i ++ R ∧ (last ∉ kys (tRun t h m last f Q i) → R = [])
  | 0, Q, i, g, c, h1, h2 => ⟨g, [], by simp [bRun, tRun], fun _ => rfl⟩
  | f + 1, Q, i, g, c, h1, h2 => by
    have hb := bRun_ok hh (f + 1) Q i g c h1 h2
    unfold tRun
    split
    · rename_i z hz
      split
      · rename_i hl
        obtain ⟨_, _, R, er⟩ := hb
        exact ⟨g, R, er, fun z => absurd hl z⟩
      · have hi : i < Q.length := by
          rcases Nat.lt_or_ge i Q.length with a | a
          · exact a
          · rw [List.getElem?_eq_none a] at hz; cases hz
        obtain ⟨R, er⟩ := foldl_pre (t := t) (h := h) z (List.range m) Q
        have er : bTurn t h m Q z = Q ++ R := er
        obtain ⟨a, R2, e2, e3⟩ := tRun_ok hh last f (bTurn t h m Q z) (i + 1) (g.turn hh (List.mem_of_getElem? hz)) (c.turn hz) (by rw [er, List.length_append]; omega) (by omega)
        refine ⟨a, R2, ?_, e3⟩
        rw [bRun]
        simp only [hz]
        exact e2
    · rename_i hz
      refine ⟨g, [], ?_, fun _ => rfl⟩
      rw [bRun]
      simp only [hz]
      simp
end
end K59

set_option maxRecDepth 100000
namespace K59
open PySem PySem.Spec PyProof.Rows L2 DL
/-! ### what the functions of the program compute -/
def edD (m : Nat) (e : Nat → Nat × Nat) : List D := tn m fun k => pD (e k)
def hdD (m : Nat) (h : Nat → Nat) : List D := tn m fun k => .int (h k)
def gO (n m : Nat) (e : Nat → Nat × Nat) : D := .obj "Graphic" [("size", .int m), ("vertices", .int n), ("edges", .tup (edD m e))]
theorem at_size (n m : Nat) (e : Nat → Nat × Nat) (ρ : Ev) : xAttr ["Graphic"] "size" (xName 0) (.imm (gO n m e) :: ρ) = some (.val (.int m), .imm (gO n m e) :: ρ) := rfl
theorem at_vertices (n m : Nat) (e : Nat → Nat × Nat) (ρ : Ev) : xAttr ["Graphic"] "vertices" (xName 0) (.imm (gO n m e) :: ρ) = some (.val (.int n), .imm (gO n m e) :: ρ) := rfl
theorem at_edges (n m : Nat) (e : Nat → Nat × Nat) (ρ : Ev) : xAttr ["Graphic"] "edges" (xName 0) (.imm (gO n m e) :: ρ) = some (.val (.tup (edD m e)), .imm (gO n m e) :: ρ) := rfl
theorem fnD_nx {n k : Nat} {s : FS} {ρa ρ' r : Ev} (e : s (ρa ++ List.replicate k .un) = some (.nx ρ')) (h : ρa.length = n) (hr : rstA ρa ρ' = r) : fnD false n k s ρa = some (.non, r) := by
  unfold fnD
  rw [if_pos h, e]
  show (if false = true then none else some (D.non, rstA ρa ρ')) = _
  rw [if_neg (by decide), hr]
/-! Graphic(vertices, edges) -/
theorem breach_eq {n m : Nat} {e : Nat → Nat × Nat} (G : GrOk n m e) (hm : m ≤ 1000) : m_graph_breach [.imm (.int n), .imm (.tup (edD m e))] = some (.non, [.imm (.int n), .imm (.tup (edD m e))]) := by
  have hL : L_graph_breach_1 [.imm (.int n), .imm (.tup (edD m e)), .un, .un, .un] = some (.nx [.imm (.int n), .imm (.tup (edD m e)), .un, .un, .un]) := by
    unfold L_graph_breach_1
    refine (sFor_run (tmp := [2, 3, 4]) (g := gSet 2) (bd := B_graph_breach_1) nD (fun _ : Unit => [.imm (.int n), .imm (.tup (edD m e)), .un, .un, .un]) (fun _ _ => ()) (fun _ _ => True) (List.range m) () (iRg1_nat (by simp only [sSeq, sSet, sSetN, sAsg, sDrop, sRet, sRetN, sIf, sPar, sAug, sAugL, sNil, xName, xC, xBin, xBinN, xBinT, xCall, xCallN, xNew, xTup, xLst, xLstRg, xTupRg, xRg1, xRg2, xTru, xNot, xAndT, xOrT, xAnd, xOr, xNotV, rdB, xIf, xNeg, xMet, xMet0, xMut, xMut0, aNil, aCons, vals, rdAll, R.rd, oNone, oSome, xSlL, xSlT, gSet, gsNil, gsCons, gTupD, gLstD, gSubL, freeAt, isOw, kYes, List.getElem?_cons_zero, List.getElem?_cons_succ, List.set_cons_zero, List.set_cons_succ, Option.bind_some, Option.bind_none, if_true, if_false, Bool.false_eq_true, reduceIte, List.length_cons, List.length_nil, Bool.and_true, Bool.true_and, Bool.and_self, Bool.not_true, Bool.not_false, false_and, and_false, true_and, and_true, Option.isSome_some, xCallV, xCallVN, xCallB, xCh2, xCh3, isB, xDct1, xMake, sFldD, sPutD, List.map_cons, List.map_nil, edD, lenT]) (by omega)) trivial fun _ k _ hk _ => ⟨trivial, ?_⟩).1
    have hk := List.mem_range.mp hk
    obtain ⟨g1, g2⟩ := G k hk
    have i1 : dIx (.tup (edD m e)) (.int k) = some (pD (e k)) := ixT _ hk
    have d1 : decide ((0 : Int) ≤ (e k).1) = true := decide_eq_true (by omega)
    have d2 : decide (((e k).1 : Int) ≤ (e k).2) = true := decide_eq_true (by omega)
    have d3 : decide (((e k).2 : Int) < n) = true := decide_eq_true (by omega)
    generalize edD m e = ed at i1
    generalize e k = p at i1 d1 d2 d3
    unfold turnF B_graph_breach_1
    simp only [sSeq, sSet, sSetN, sAsg, sDrop, sRet, sRetN, sIf, sPar, sAug, sAugL, sNil, xName, xC, xBin, xBinN, xBinT, xCall, xCallN, xNew, xTup, xLst, xLstRg, xTupRg, xRg1, xRg2, xTru, xNot, xAndT, xOrT, xAnd, xOr, xNotV, rdB, xIf, xNeg, xMet, xMet0, xMut, xMut0, aNil, aCons, vals, rdAll, R.rd, oNone, oSome, xSlL, xSlT, gSet, gsNil, gsCons, gTupD, gLstD, gSubL, freeAt, isOw, kYes, List.getElem?_cons_zero, List.getElem?_cons_succ, List.set_cons_zero, List.set_cons_succ, Option.bind_some, Option.bind_none, if_true, if_false, Bool.false_eq_true, reduceIte, List.length_cons, List.length_nil, Bool.and_true, Bool.true_and, Bool.and_self, Bool.not_true, Bool.not_false, false_and, and_false, true_and, and_true, Option.isSome_some, xCallV, xCallVN, xCallB, xCh2, xCh3, isB, xDct1, xMake, sFldD, sPutD, List.map_cons, List.map_nil, nD, i1, pD, dLe_int, dLt_int, d1, d2, d3]
    simp only [sSeq, sSet, sSetN, sAsg, sDrop, sRet, sRetN, sIf, sPar, sAug, sAugL, sNil, xName, xC, xBin, xBinN, xBinT, xCall, xCallN, xNew, xTup, xLst, xLstRg, xTupRg, xRg1, xRg2, xTru, xNot, xAndT, xOrT, xAnd, xOr, xNotV, rdB, xIf, xNeg, xMet, xMet0, xMut, xMut0, aNil, aCons, vals, rdAll, R.rd, oNone, oSome, xSlL, xSlT, gSet, gsNil, gsCons, gTupD, gLstD, gSubL, freeAt, isOw, kYes, List.getElem?_cons_zero, List.getElem?_cons_succ, List.set_cons_zero, List.set_cons_succ, Option.bind_some, Option.bind_none, if_true, if_false, Bool.false_eq_true, reduceIte, List.length_cons, List.length_nil, Bool.and_true, Bool.true_and, Bool.and_self, Bool.not_true, Bool.not_false, false_and, and_false, true_and, and_true, Option.isSome_some, xCallV, xCallVN, xCallB, xCh2, xCh3, isB, xDct1, xMake, sFldD, sPutD, List.map_cons, List.map_nil, wps, wp1, List.foldl_cons, List.foldl_nil]
  refine fnD_rt (b := false) (ρ' := [.imm (.int n), .imm (.tup (edD m e)), .un, .un, .un]) ?_ rfl (.inl rfl) rfl
  show b_graph_breach [.imm (.int n), .imm (.tup (edD m e)), .un, .un, .un] = _
  unfold b_graph_breach
  simp only [sSeq, sSet, sSetN, sAsg, sDrop, sRet, sRetN, sIf, sPar, sAug, sAugL, sNil, xName, xC, xBin, xBinN, xBinT, xCall, xCallN, xNew, xTup, xLst, xLstRg, xTupRg, xRg1, xRg2, xTru, xNot, xAndT, xOrT, xAnd, xOr, xNotV, rdB, xIf, xNeg, xMet, xMet0, xMut, xMut0, aNil, aCons, vals, rdAll, R.rd, oNone, oSome, xSlL, xSlT, gSet, gsNil, gsCons, gTupD, gLstD, gSubL, freeAt, isOw, kYes, List.getElem?_cons_zero, List.getElem?_cons_succ, List.set_cons_zero, List.set_cons_succ, Option.bind_some, Option.bind_none, if_true, if_false, Bool.false_eq_true, reduceIte, List.length_cons, List.length_nil, Bool.and_true, Bool.true_and, Bool.and_self, Bool.not_true, Bool.not_false, false_and, and_false, true_and, and_true, Option.isSome_some, xCallV, xCallVN, xCallB, xCh2, xCh3, isB, xDct1, xMake, sFldD, sPutD, List.map_cons, List.map_nil, hL]
theorem init_eq {n m : Nat} {e : Nat → Nat × Nat} (G : GrOk n m e) (hm : m ≤ 1000) : m_Graphic__init [.ow true (.obj "Graphic" []), .imm (.int n), .imm (.tup (edD m e))] = some (.non, [.ow true (gO n m e), .imm (.int n), .imm (.tup (edD m e))]) := by
  have h1 := breach_eq G hm
  have h2 : dLen [.tup (edD m e)] = some (.int m) := lenT _ _
  have h3 : dIsNot .non .non = some (.bl false) := rfl
  have c1 : (["Graphic"] : List Str).contains "Graphic" = true := by decide
  have p1 : putA "size" (D.int m) [] = ([("size", D.int m)] : List (Str × D)) := rfl
  have p2 : putA "vertices" (D.int n) [("size", D.int m)] = ([("size", D.int m), ("vertices", D.int n)] : List (Str × D)) := rfl
  have p3 : putA "edges" (D.tup (edD m e)) [("size", D.int m), ("vertices", D.int n)] = ([("size", D.int m), ("vertices", D.int n), ("edges", D.tup (edD m e))] : List (Str × D)) := rfl
  have g0 : Grd (0 < 1000) = True := grd (by omega)
  have g1 : Grd (0 + 1 < 1000) = True := grd (by omega)
  have g2 : Grd (0 + 1 + 1 < 1000) = True := grd (by omega)
  have h4 : dTupOf [.tup (edD m e)] = some (.tup (edD m e)) := rfl
  unfold gO
  generalize edD m e = ed at *
  have fin : b_Graphic__init [.ow true (.obj "Graphic" []), .imm (.int n), .imm (.tup ed)] = some (.nx [.ow true (.obj "Graphic" [("size", D.int m), ("vertices", D.int n), ("edges", D.tup ed)]), .imm (.int n), .imm (.tup ed)]) := by
    unfold b_Graphic__init
    simp only [sSeq, sSet, sSetN, sAsg, sDrop, sRet, sRetN, sIf, sPar, sAug, sAugL, sNil, xName, xC, xBin, xBinN, xBinT, xCall, xCallN, xNew, xTup, xLst, xLstRg, xTupRg, xRg1, xRg2, xTru, xNot, xAndT, xOrT, xAnd, xOr, xNotV, rdB, xIf, xNeg, xMet, xMet0, xMut, xMut0, aNil, aCons, vals, rdAll, R.rd, oNone, oSome, xSlL, xSlT, gSet, gsNil, gsCons, gTupD, gLstD, gSubL, freeAt, isOw, kYes, List.getElem?_cons_zero, List.getElem?_cons_succ, List.set_cons_zero, List.set_cons_succ, Option.bind_some, Option.bind_none, if_true, if_false, Bool.false_eq_true, reduceIte, List.length_cons, List.length_nil, Bool.and_true, Bool.true_and, Bool.and_self, Bool.not_true, Bool.not_false, false_and, and_false, true_and, and_true, Option.isSome_some, xCallV, xCallVN, xCallB, xCh2, xCh3, isB, xDct1, xMake, sFldD, sPutD, List.map_cons, List.map_nil, h1, h2, h3, h4, c1, p1, p2, p3, g0, g1, g2]
  exact fnD_nx fin rfl rfl
theorem make_eq {n m : Nat} {e : Nat → Nat × Nat} (G : GrOk n m e) (hm : m ≤ 1000) {h : FA} {ρ ρ' : Ev} (hh : h ρ = some ([.val (.int n), .val (.tup (edD m e))], ρ')) : xMake "Graphic" m_Graphic__init h ρ = some (gO n m e, ρ') := by
  have := init_eq G hm
  unfold xMake
  simp only [hh, Option.bind_some, vals, List.map_cons, List.map_nil, this]
/-! scores -/
theorem flat_ones (n : Nat) : (List.replicate n [D.int 0]).flatten = List.replicate n (D.int 0) := by
  induction n with
  | zero => rfl
  | succ n ih => rw [List.replicate_succ, List.flatten_cons, ih]; rfl
def scD (n m : Nat) (e : Nat → Nat × Nat) (h : Nat → Nat) : D := .tup (tn n fun v => .int (cnt (tl e h) m v : Nat))
theorem tl_int {m : Nat} {e : Nat → Nat × Nat} {h : Nat → Nat} (H : HdOk m e h) {k : Nat} (hk : k < m) : ((e k).1 : Int) + (e k).2 - (h k) = (tl e h k : Nat) := by
  unfold tl
  rcases H k hk with z | z <;> omega
theorem scores_eq {n m : Nat} {e : Nat → Nat × Nat} {h : Nat → Nat} (G : GrOk n m e) (H : HdOk m e h) (hn : n ≤ 1000) (hm : m ≤ 1000) {wr : List D → D} (hw : wr = .lst ∨ wr = .tup) :
    m_scores [.imm (gO n m e), .imm (wr (hdD m h))] = some (scD n m e h, [.imm (gO n m e), .imm (wr (hdD m h))]) := by
  have hL : L_scores_1 [.imm (gO n m e), .imm (wr (hdD m h)), .ow false (.lst (tn n fun v => .int (cnt (tl e h) 0 v : Nat))), .un] = some (.nx [.imm (gO n m e), .imm (wr (hdD m h)), .ow false (.lst (tn n fun v => .int (cnt (tl e h) m v : Nat))), .un]) := by
    unfold L_scores_1
    have hfi : iRg1 (xAttr ["Graphic"] "size" (xName 0)) [.imm (gO n m e), .imm (wr (hdD m h)), .ow false (.lst (tn n fun v => .int (cnt (tl e h) 0 v : Nat))), .un] = some (((List.range m).map nD, none), [.imm (gO n m e), .imm (wr (hdD m h)), .ow false (.lst (tn n fun v => .int (cnt (tl e h) 0 v : Nat))), .un]) := iRg1_nat (at_size ..) (by omega)
    have key := (sFor_runL (tmp := [3]) (g := gSet 3) (bd := B_scores_1) nD (fun j : Nat => [.imm (gO n m e), .imm (wr (hdD m h)), .ow false (.lst (tn n fun v => .int (cnt (tl e h) j v : Nat))), .un]) (fun j _ => j + 1) (fun xs j => xs = List.range' j (m - j) ∧ j ≤ m) (List.range m) 0 hfi ⟨by rw [List.range_eq_range']; rfl, by omega⟩ ?_)
    · obtain ⟨k1, k2, k3⟩ := key
      have : (List.range m).foldl (fun j _ => j + 1) 0 = m := by
        have e : ∀ (l : List Nat) (j : Nat), l.foldl (fun j _ => j + 1) j = j + l.length := by
          intro l
          induction l with
          | nil => intro j; rfl
          | cons x l ih => intro j; rw [List.foldl_cons, ih, List.length_cons]; omega
        rw [e, List.length_range]; omega
      rw [this] at k1
      exact k1
    · intro k xs j ⟨hx, hj⟩
      have hj2 : j < m := by
        rcases Nat.lt_or_ge j m with a | a
        · exact a
        · rw [show m - j = 0 by omega] at hx; cases hx
      rw [show m - j = (m - (j + 1)) + 1 by omega, List.range'_succ] at hx
      obtain ⟨rfl, hx⟩ := List.cons.inj hx
      refine ⟨⟨hx, hj2⟩, ?_⟩
      obtain ⟨t1, t2⟩ := tl_lt G H hj2
      have i1 : dIx (.tup (edD m e)) (.int k) = some (pD (e k)) := ixT _ hj2
      have i2 : dIx (wr (hdD m h)) (.int k) = some (.int (h k)) := ixW hw _ hj2
      have i3 : atI (tn n fun v => .int (cnt (tl e h) k v : Nat)) (tl e h k : Nat) = some (.int (cnt (tl e h) k (tl e h k) : Nat)) := tn_at _ t1
      have i4 : ixN (tn n fun v => D.int (cnt (tl e h) k v : Nat)).length (tl e h k : Nat) = some (tl e h k) := ixN_nat (by rw [tn_len]; exact t1)
      have i5 : (tn n fun v => D.int (cnt (tl e h) k v : Nat)).set (tl e h k) (.int ((cnt (tl e h) k (tl e h k) : Nat) + 1)) = tn n fun v => .int (cnt (tl e h) (k + 1) v : Nat) := by
        rw [tn_set]
        refine tn_congr fun v _ => ?_
        unfold cnt
        rw [show cntS (fun k => tl e h k == v) (k + 1) = cntS (fun k => tl e h k == v) k + if (tl e h k == v) = true then 1 else 0 from rfl]
        by_cases z : v = tl e h k
        · subst z; simp
        · have z2 : ¬ tl e h k = v := fun q => z q.symm
          simp [z, z2]
      have i6 := tl_int H hj2
      have i7 := tn_get (fun v => D.int (cnt (tl e h) k v : Nat)) t1
      generalize hc : (tn n fun v => D.int (cnt (tl e h) k v : Nat)) = cs at i3 i4 i5 i7 ⊢
      generalize (tn n fun v => D.int (cnt (tl e h) (k + 1) v : Nat)) = cs2 at i5 ⊢
      unfold turnF B_scores_1
      simp only [sSeq, sSet, sSetN, sAsg, sDrop, sRet, sRetN, sIf, sPar, sAug, sAugL, sNil, xName, xC, xBin, xBinN, xBinT, xCall, xCallN, xNew, xTup, xLst, xLstRg, xTupRg, xRg1, xRg2, xTru, xNot, xAndT, xOrT, xAnd, xOr, xNotV, rdB, xIf, xNeg, xMet, xMet0, xMut, xMut0, aNil, aCons, vals, rdAll, R.rd, oNone, oSome, xSlL, xSlT, gSet, gsNil, gsCons, gTupD, gLstD, gSubL, freeAt, isOw, kYes, List.getElem?_cons_zero, List.getElem?_cons_succ, List.set_cons_zero, List.set_cons_succ, Option.bind_some, Option.bind_none, if_true, if_false, Bool.false_eq_true, reduceIte, List.length_cons, List.length_nil, Bool.and_true, Bool.true_and, Bool.and_self, Bool.not_true, Bool.not_false, false_and, and_false, true_and, and_true, Option.isSome_some, xCallV, xCallVN, xCallB, xCh2, xCh3, isB, xDct1, xMake, sFldD, sPutD, List.map_cons, List.map_nil, nD, at_edges, i1, dIx_0, dIx_1, dPlus_int, dSub_int, i2, i6, i3, i4, i7, dAdd_int, i5]
      simp only [sSeq, sSet, sSetN, sAsg, sDrop, sRet, sRetN, sIf, sPar, sAug, sAugL, sNil, xName, xC, xBin, xBinN, xBinT, xCall, xCallN, xNew, xTup, xLst, xLstRg, xTupRg, xRg1, xRg2, xTru, xNot, xAndT, xOrT, xAnd, xOr, xNotV, rdB, xIf, xNeg, xMet, xMet0, xMut, xMut0, aNil, aCons, vals, rdAll, R.rd, oNone, oSome, xSlL, xSlT, gSet, gsNil, gsCons, gTupD, gLstD, gSubL, freeAt, isOw, kYes, List.getElem?_cons_zero, List.getElem?_cons_succ, List.set_cons_zero, List.set_cons_succ, Option.bind_some, Option.bind_none, if_true, if_false, Bool.false_eq_true, reduceIte, List.length_cons, List.length_nil, Bool.and_true, Bool.true_and, Bool.and_self, Bool.not_true, Bool.not_false, false_and, and_false, true_and, and_true, Option.isSome_some, xCallV, xCallVN, xCallB, xCh2, xCh3, isB, xDct1, xMake, sFldD, sPutD, List.map_cons, List.map_nil, wps, wp1, List.foldl_cons, List.foldl_nil]
  have hM : dMulL (.lst [.int 0]) (.int n) = some (.lst (tn n fun v => .int (cnt (tl e h) 0 v : Nat))) := by
    unfold dMulL
    simp only
    rw [if_pos (show Grd ((n : Int) ≤ 1000 ∧ -1000 ≤ (n : Int) ∧ [D.int 0].length ≤ 1000) from ⟨by omega, by omega, by simp⟩)]
    congr 2
    rw [Int.toNat_natCast]
    apply List.ext_getElem?
    intro j
    have e0 := flat_ones n
    rw [e0]
    by_cases hj : j < n
    · rw [tn_get _ hj, List.getElem?_replicate, if_pos hj]; rfl
    · rw [List.getElem?_eq_none (by simp; omega), List.getElem?_eq_none (by rw [tn_len]; omega)]
  refine fnD_rt (b := false) (ρ' := [.imm (gO n m e), .imm (wr (hdD m h)), .ow false (.lst (tn n fun v => .int (cnt (tl e h) m v : Nat))), .un]) ?_ rfl (.inl rfl) rfl
  show b_scores [.imm (gO n m e), .imm (wr (hdD m h)), .un, .un] = _
  unfold b_scores scD
  generalize (tn n fun v => D.int (cnt (tl e h) 0 v : Nat)) = cs at hM hL
  generalize (tn n fun v => D.int (cnt (tl e h) m v : Nat)) = cs2 at hL ⊢
  generalize wr (hdD m h) = hd at hL ⊢
  have g1 : Grd (0 + 1 ≤ sizeLine) = True := grdN (by omega)
  simp only [sSeq, sSet, sSetN, sAsg, sDrop, sRet, sRetN, sIf, sPar, sAug, sAugL, sNil, xName, xC, xBin, xBinN, xBinT, xCall, xCallN, xNew, xTup, xLst, xLstRg, xTupRg, xRg1, xRg2, xTru, xNot, xAndT, xOrT, xAnd, xOr, xNotV, rdB, xIf, xNeg, xMet, xMet0, xMut, xMut0, aNil, aCons, vals, rdAll, R.rd, oNone, oSome, xSlL, xSlT, gSet, gsNil, gsCons, gTupD, gLstD, gSubL, freeAt, isOw, kYes, List.getElem?_cons_zero, List.getElem?_cons_succ, List.set_cons_zero, List.set_cons_succ, Option.bind_some, Option.bind_none, if_true, if_false, Bool.false_eq_true, reduceIte, List.length_cons, List.length_nil, Bool.and_true, Bool.true_and, Bool.and_self, Bool.not_true, Bool.not_false, false_and, and_false, true_and, and_true, Option.isSome_some, xCallV, xCallVN, xCallB, xCh2, xCh3, isB, xDct1, xMake, sFldD, sPutD, List.map_cons, List.map_nil, at_vertices, hM, hL, dTupOf, g1]
end K59

set_option maxRecDepth 100000
namespace K59
open PySem PySem.Spec PyProof.Rows L2 DL
/-! ### the searches -/
theorem Gd.at {n m : Nat} {t h : Nat → Nat} {first : Nat} {Q : List En} (g : Gd n m t h first Q) {i : Nat} {z : En} (hz : Q[i]? = some z) {k : Nat} (hk : k < m) (hh : h k < n) : Gd n m t h first (bStep t h z Q k) ∧ (bStep t h z Q k)[i]? = some z := by
  refine ⟨(g.step (List.mem_of_getElem? hz) hk hh).1, ?_⟩
  have hi : i < Q.length := by
    rcases Nat.lt_or_ge i Q.length with a | a
    · exact a
    · rw [List.getElem?_eq_none a] at hz; cases hz
  obtain ⟨R, e⟩ := bStep_pre (t := t) (h := h) z Q k
  rw [e, List.getElem?_append_left hi]
  exact hz
theorem at_lt {α : Type} {Q : List α} {i : Nat} {z : α} (hz : Q[i]? = some z) : i < Q.length := by
  rcases Nat.lt_or_ge i Q.length with a | a
  · exact a
  · rw [List.getElem?_eq_none a] at hz; cases hz
theorem find_in {n m : Nat} {t h : Nat → Nat} {first : Nat} {Q : List En} (g : Gd n m t h first Q) {z : En} (hz : z ∈ Q) : (Q.find? fun x => x.v == z.v) = some z := by
  cases e : Q.find? fun x => x.v == z.v with
  | none => exact absurd (beq_self_eq_true z.v) (by simpa using List.find?_eq_none.mp e z hz)
  | some y =>
    have h1 := List.find?_some e
    rw [g.inj (List.mem_of_find?_eq_some e) hz (eq_of_beq h1)]
theorem find_out {Q : List En} {v : Nat} (hv : v ∉ kys Q) : (Q.find? fun x => x.v == v) = none := by
  rw [List.find?_eq_none]
  intro x hx z
  exact hv (kys_mem.mpr ⟨x, hx, eq_of_beq z⟩)
theorem find_is (Q : List En) (v : Nat) : (Q.find? fun x => x.v == v).isSome = decide (v ∈ kys Q) := by
  by_cases h : v ∈ kys Q
  · rw [decide_eq_true h]
    obtain ⟨x, hx, e⟩ := kys_mem.mp h
    rw [List.find?_isSome]
    exact ⟨x, hx, by rw [e]; exact beq_self_eq_true v⟩
  · rw [decide_eq_false h, find_out h]
    rfl
def dcK (g : En → D) (Q : List En) : List (Key × D) := Q.map fun x => ((.inl (x.v : Int) : Key), g x)
def dcQ (g : En → D) (Q : List En) : D := .dct (dcK g Q)
theorem valQ (g : En → D) (Q : List En) (v : Nat) : valK (dcK g Q) (.inl (v : Int)) = (Q.find? fun x => x.v == v).map g := valK_map En.v g v Q
theorem notIn_Q (g : En → D) (Q : List En) (v : Nat) : dNotInD (.int v) (dcQ g Q) = some (.bl (!decide (v ∈ kys Q))) := by
  unfold dNotInD dcQ
  simp only [keyD, Option.bind_some, valQ, Option.isSome_map, find_is]
theorem get_Q {n m : Nat} {t h : Nat → Nat} {first : Nat} {Q : List En} (gd : Gd n m t h first Q) (g : En → D) {z : En} (hz : z ∈ Q) : dGetK (dcQ g Q) (.int z.v) = some (g z) := by
  unfold dGetK dcQ
  simp only [keyD, Option.bind_some, valQ, find_in gd hz, Option.map_some]
theorem put_Q (g : En → D) {Q : List En} {v : Nat} (hv : v ∉ kys Q) (d : D) : putKD (dcK g Q) (.inl (v : Int)) d = dcK g Q ++ [(.inl (v : Int), d)] := putKD_new (by rw [valQ, find_out hv]; rfl)
/-- the tests of the two searches of the program -/
theorem tests {m : Nat} {e : Nat → Nat × Nat} {h : Nat → Nat} (H : HdOk m e h) {k : Nat} (hk : k < m) (v : Nat) :
    (tl e h k = v → decide (v = (e k).1 ∨ v = (e k).2) = true ∧ ((h k : Int) == (e k).1 + (e k).2 - (v : Nat)) = true) ∧
    (tl e h k ≠ v → decide (v = (e k).1 ∨ v = (e k).2) = true → ((h k : Int) == (e k).1 + (e k).2 - (v : Nat)) = false) := by
  refine ⟨fun c => ?_, fun c d => ?_⟩
  · rcases tl_ends H hk with ⟨a, b⟩ | ⟨a, b⟩
    · refine ⟨decide_eq_true (.inr (by omega)), beq_iff_eq.mpr (by omega)⟩
    · refine ⟨decide_eq_true (.inl (by omega)), beq_iff_eq.mpr (by omega)⟩
  · rw [beq_eq_false_iff_ne]
    have d := of_decide_eq_true d
    intro z
    apply c
    unfold tl
    rcases d with d | d <;> omega
theorem bStep_bools {m : Nat} {e : Nat → Nat × Nat} {h : Nat → Nat} (H : HdOk m e h) {k : Nat} (hk : k < m) (z : En) (Q : List En) :
    (if decide (z.v = (e k).1 ∨ z.v = (e k).2) = true ∧ ((h k : Int) == (e k).1 + (e k).2 - (z.v : Nat)) = true ∧ decide (h k ∈ kys Q) = false then Q ++ [⟨h k, z.v, k, z.d + 1⟩] else Q) = bStep (tl e h) h z Q k := by
  obtain ⟨q1, q2⟩ := tests H hk z.v
  unfold bStep
  by_cases c : tl e h k = z.v
  · obtain ⟨c1, c2⟩ := q1 c
    rw [c1, c2]
    by_cases c3 : h k ∈ kys Q
    · rw [decide_eq_true c3]; simp [c3]
    · rw [decide_eq_false c3]; simp [c, c3]
  · by_cases d : decide (z.v = (e k).1 ∨ z.v = (e k).2) = true
    · rw [q2 c d]; simp [c]
    · rw [Bool.eq_false_iff.mpr d]; simp [c]
section
variable {n m : Nat} {e : Nat → Nat × Nat} {h : Nat → Nat} {first : Nat}
/-! led_to -/
def RL (n m : Nat) (e : Nat → Nat × Nat) (hd f0 : D) (Q : List En) (s4 s5 s6 s7 s8 : Slot) : Ev := [.imm (gO n m e), .imm hd, .imm f0, .ow false (.lst ((kys Q).map nD)), s4, s5, s6, s7, s8]
theorem kys_app (Q : List En) (x : En) : (kys (Q ++ [x])).map nD = (kys Q).map nD ++ [.int x.v] := by simp [kys, nD]
theorem LL1 (G : GrOk n m e) (H : HdOk m e h) (hn : n ≤ 1000) (hm : m ≤ 1000) {wr : List D → D} (hw : wr = .lst ∨ wr = .tup) (f0 : D) {Q : List En} (g : Gd n m (tl e h) h first Q) {i : Nat} {z : En} (hz : Q[i]? = some z) (s4 : Slot) :
    L_led_to_1 (RL n m e (wr (hdD m h)) f0 Q s4 (.imm (.int z.v)) .un .un .un) = some (.nx (RL n m e (wr (hdD m h)) f0 (bTurn (tl e h) h m Q z) s4 (.imm (.int z.v)) .un .un .un)) := by
  unfold L_led_to_1
  have hfi : iRg1 (xAttr ["Graphic"] "size" (xName 0)) (RL n m e (wr (hdD m h)) f0 Q s4 (.imm (.int z.v)) .un .un .un) = some (((List.range m).map nD, none), RL n m e (wr (hdD m h)) f0 Q s4 (.imm (.int z.v)) .un .un .un) := iRg1_nat (at_size ..) (by omega)
  refine (sFor_run (tmp := [6, 7, 8]) (g := gSet 6) (bd := B_led_to_1) nD (fun Q => RL n m e (wr (hdD m h)) f0 Q s4 (.imm (.int z.v)) .un .un .un) (bStep (tl e h) h z) (fun _ Q => Gd n m (tl e h) h first Q ∧ Q[i]? = some z) (List.range m) Q hfi ⟨g, hz⟩ fun _ k Q hk ⟨g, hz⟩ => ?_).1
  have hk := List.mem_range.mp hk
  obtain ⟨t1, t2⟩ := tl_lt G H hk
  refine ⟨g.at hz hk t2, ?_⟩
  have i1 : dIx (.tup (edD m e)) (.int k) = some (pD (e k)) := ixT _ hk
  have i2 : dIx (wr (hdD m h)) (.int k) = some (.int (h k)) := ixW hw _ hk
  have i3 := inU z.v (e k).1 (e k).2
  have i4 := notInL (h k) (kys Q)
  have g2 : Grd (0 + 1 + 1 ≤ sizeLine) = True := grdN (by omega)
  have gl := g.len
  have g3 : Grd (((kys Q).map nD).length < sizeLine) = True := grdS (by simp [kys]; omega)
  obtain ⟨q1, q2⟩ := tests H hk z.v
  have ka := kys_app Q ⟨h k, z.v, k, z.d + 1⟩
  have key : ∀ b1 b2 b3 : Bool, decide (z.v = (e k).1 ∨ z.v = (e k).2) = b1 → ((h k : Int) == (e k).1 + (e k).2 - (z.v : Nat)) = b2 → decide (h k ∈ kys Q) = b3 →
      turnF [6, 7, 8] (gSet 6) B_led_to_1 (nD k) (RL n m e (wr (hdD m h)) f0 Q s4 (.imm (.int z.v)) .un .un .un) = some (RL n m e (wr (hdD m h)) f0 (if b1 = true ∧ b2 = true ∧ b3 = false then Q ++ [⟨h k, z.v, k, z.d + 1⟩] else Q) s4 (.imm (.int z.v)) .un .un .un) := by
    intro b1 b2 b3 e1 e2 e3
    rw [e1] at i3
    rw [e3] at i4
    generalize wr (hdD m h) = hd at i2
    unfold turnF B_led_to_1 RL
    generalize hks : (kys Q).map nD = ks at i4 g3 ka
    cases b1 with
    | false =>
      simp only [sSeq, sSet, sSetN, sAsg, sDrop, sRet, sRetN, sIf, sPar, sAug, sAugL, sNil, xName, xC, xBin, xBinN, xBinT, xCall, xCallN, xNew, xTup, xLst, xLstRg, xTupRg, xRg1, xRg2, xTru, xNot, xAndT, xOrT, xAnd, xOr, xNotV, rdB, xIf, xNeg, xMet, xMet0, xMut, xMut0, aNil, aCons, vals, rdAll, DL.R.rd, oNone, oSome, xSlL, xSlT, gSet, gsNil, gsCons, gTupD, gLstD, gSubL, freeAt, isOw, kYes, List.getElem?_cons_zero, List.getElem?_cons_succ, List.set_cons_zero, List.set_cons_succ, Option.bind_some, Option.bind_none, if_true, if_false, Bool.false_eq_true, reduceIte, List.length_cons, List.length_nil, Bool.and_true, Bool.true_and, Bool.and_self, Bool.not_true, Bool.not_false, false_and, and_false, true_and, and_true, Option.isSome_some, xCallV, xCallVN, xCallB, xCh2, xCh3, isB, xDct1, xMake, sFldD, sPutD, List.map_cons, List.map_nil, nD, at_edges, i1, pD, i3, g2]
      simp only [sSeq, sSet, sSetN, sAsg, sDrop, sRet, sRetN, sIf, sPar, sAug, sAugL, sNil, xName, xC, xBin, xBinN, xBinT, xCall, xCallN, xNew, xTup, xLst, xLstRg, xTupRg, xRg1, xRg2, xTru, xNot, xAndT, xOrT, xAnd, xOr, xNotV, rdB, xIf, xNeg, xMet, xMet0, xMut, xMut0, aNil, aCons, vals, rdAll, DL.R.rd, oNone, oSome, xSlL, xSlT, gSet, gsNil, gsCons, gTupD, gLstD, gSubL, freeAt, isOw, kYes, List.getElem?_cons_zero, List.getElem?_cons_succ, List.set_cons_zero, List.set_cons_succ, Option.bind_some, Option.bind_none, if_true, if_false, Bool.false_eq_true, reduceIte, List.length_cons, List.length_nil, Bool.and_true, Bool.true_and, Bool.and_self, Bool.not_true, Bool.not_false, false_and, and_false, true_and, and_true, Option.isSome_some, xCallV, xCallVN, xCallB, xCh2, xCh3, isB, xDct1, xMake, sFldD, sPutD, List.map_cons, List.map_nil, wps, wp1, List.foldl_cons, List.foldl_nil, hks, reduceCtorEq]
    | true =>
      cases b2 with
      | false =>
        simp only [sSeq, sSet, sSetN, sAsg, sDrop, sRet, sRetN, sIf, sPar, sAug, sAugL, sNil, xName, xC, xBin, xBinN, xBinT, xCall, xCallN, xNew, xTup, xLst, xLstRg, xTupRg, xRg1, xRg2, xTru, xNot, xAndT, xOrT, xAnd, xOr, xNotV, rdB, xIf, xNeg, xMet, xMet0, xMut, xMut0, aNil, aCons, vals, rdAll, DL.R.rd, oNone, oSome, xSlL, xSlT, gSet, gsNil, gsCons, gTupD, gLstD, gSubL, freeAt, isOw, kYes, List.getElem?_cons_zero, List.getElem?_cons_succ, List.set_cons_zero, List.set_cons_succ, Option.bind_some, Option.bind_none, if_true, if_false, Bool.false_eq_true, reduceIte, List.length_cons, List.length_nil, Bool.and_true, Bool.true_and, Bool.and_self, Bool.not_true, Bool.not_false, false_and, and_false, true_and, and_true, Option.isSome_some, xCallV, xCallVN, xCallB, xCh2, xCh3, isB, xDct1, xMake, sFldD, sPutD, List.map_cons, List.map_nil, nD, at_edges, i1, pD, i3, g2, i2, dPlus_int, dSub_int, dEq_int, e2]
        simp only [sSeq, sSet, sSetN, sAsg, sDrop, sRet, sRetN, sIf, sPar, sAug, sAugL, sNil, xName, xC, xBin, xBinN, xBinT, xCall, xCallN, xNew, xTup, xLst, xLstRg, xTupRg, xRg1, xRg2, xTru, xNot, xAndT, xOrT, xAnd, xOr, xNotV, rdB, xIf, xNeg, xMet, xMet0, xMut, xMut0, aNil, aCons, vals, rdAll, DL.R.rd, oNone, oSome, xSlL, xSlT, gSet, gsNil, gsCons, gTupD, gLstD, gSubL, freeAt, isOw, kYes, List.getElem?_cons_zero, List.getElem?_cons_succ, List.set_cons_zero, List.set_cons_succ, Option.bind_some, Option.bind_none, if_true, if_false, Bool.false_eq_true, reduceIte, List.length_cons, List.length_nil, Bool.and_true, Bool.true_and, Bool.and_self, Bool.not_true, Bool.not_false, false_and, and_false, true_and, and_true, Option.isSome_some, xCallV, xCallVN, xCallB, xCh2, xCh3, isB, xDct1, xMake, sFldD, sPutD, List.map_cons, List.map_nil, wps, wp1, List.foldl_cons, List.foldl_nil, hks, reduceCtorEq]
      | true =>
        cases b3 with
        | true =>
          simp only [sSeq, sSet, sSetN, sAsg, sDrop, sRet, sRetN, sIf, sPar, sAug, sAugL, sNil, xName, xC, xBin, xBinN, xBinT, xCall, xCallN, xNew, xTup, xLst, xLstRg, xTupRg, xRg1, xRg2, xTru, xNot, xAndT, xOrT, xAnd, xOr, xNotV, rdB, xIf, xNeg, xMet, xMet0, xMut, xMut0, aNil, aCons, vals, rdAll, DL.R.rd, oNone, oSome, xSlL, xSlT, gSet, gsNil, gsCons, gTupD, gLstD, gSubL, freeAt, isOw, kYes, List.getElem?_cons_zero, List.getElem?_cons_succ, List.set_cons_zero, List.set_cons_succ, Option.bind_some, Option.bind_none, if_true, if_false, Bool.false_eq_true, reduceIte, List.length_cons, List.length_nil, Bool.and_true, Bool.true_and, Bool.and_self, Bool.not_true, Bool.not_false, false_and, and_false, true_and, and_true, Option.isSome_some, xCallV, xCallVN, xCallB, xCh2, xCh3, isB, xDct1, xMake, sFldD, sPutD, List.map_cons, List.map_nil, nD, at_edges, i1, pD, i3, g2, i2, dPlus_int, dSub_int, dEq_int, e2, i4]
          simp only [sSeq, sSet, sSetN, sAsg, sDrop, sRet, sRetN, sIf, sPar, sAug, sAugL, sNil, xName, xC, xBin, xBinN, xBinT, xCall, xCallN, xNew, xTup, xLst, xLstRg, xTupRg, xRg1, xRg2, xTru, xNot, xAndT, xOrT, xAnd, xOr, xNotV, rdB, xIf, xNeg, xMet, xMet0, xMut, xMut0, aNil, aCons, vals, rdAll, DL.R.rd, oNone, oSome, xSlL, xSlT, gSet, gsNil, gsCons, gTupD, gLstD, gSubL, freeAt, isOw, kYes, List.getElem?_cons_zero, List.getElem?_cons_succ, List.set_cons_zero, List.set_cons_succ, Option.bind_some, Option.bind_none, if_true, if_false, Bool.false_eq_true, reduceIte, List.length_cons, List.length_nil, Bool.and_true, Bool.true_and, Bool.and_self, Bool.not_true, Bool.not_false, false_and, and_false, true_and, and_true, Option.isSome_some, xCallV, xCallVN, xCallB, xCh2, xCh3, isB, xDct1, xMake, sFldD, sPutD, List.map_cons, List.map_nil, wps, wp1, List.foldl_cons, List.foldl_nil, hks, reduceCtorEq]
        | false =>
          simp only [sSeq, sSet, sSetN, sAsg, sDrop, sRet, sRetN, sIf, sPar, sAug, sAugL, sNil, xName, xC, xBin, xBinN, xBinT, xCall, xCallN, xNew, xTup, xLst, xLstRg, xTupRg, xRg1, xRg2, xTru, xNot, xAndT, xOrT, xAnd, xOr, xNotV, rdB, xIf, xNeg, xMet, xMet0, xMut, xMut0, aNil, aCons, vals, rdAll, DL.R.rd, oNone, oSome, xSlL, xSlT, gSet, gsNil, gsCons, gTupD, gLstD, gSubL, freeAt, isOw, kYes, List.getElem?_cons_zero, List.getElem?_cons_succ, List.set_cons_zero, List.set_cons_succ, Option.bind_some, Option.bind_none, if_true, if_false, Bool.false_eq_true, reduceIte, List.length_cons, List.length_nil, Bool.and_true, Bool.true_and, Bool.and_self, Bool.not_true, Bool.not_false, false_and, and_false, true_and, and_true, Option.isSome_some, xCallV, xCallVN, xCallB, xCh2, xCh3, isB, xDct1, xMake, sFldD, sPutD, List.map_cons, List.map_nil, nD, at_edges, i1, pD, i3, g2, i2, dPlus_int, dSub_int, dEq_int, e2, i4, gApp, g3]
          simp only [sSeq, sSet, sSetN, sAsg, sDrop, sRet, sRetN, sIf, sPar, sAug, sAugL, sNil, xName, xC, xBin, xBinN, xBinT, xCall, xCallN, xNew, xTup, xLst, xLstRg, xTupRg, xRg1, xRg2, xTru, xNot, xAndT, xOrT, xAnd, xOr, xNotV, rdB, xIf, xNeg, xMet, xMet0, xMut, xMut0, aNil, aCons, vals, rdAll, DL.R.rd, oNone, oSome, xSlL, xSlT, gSet, gsNil, gsCons, gTupD, gLstD, gSubL, freeAt, isOw, kYes, List.getElem?_cons_zero, List.getElem?_cons_succ, List.set_cons_zero, List.set_cons_succ, Option.bind_some, Option.bind_none, if_true, if_false, Bool.false_eq_true, reduceIte, List.length_cons, List.length_nil, Bool.and_true, Bool.true_and, Bool.and_self, Bool.not_true, Bool.not_false, false_and, and_false, true_and, and_true, Option.isSome_some, xCallV, xCallVN, xCallB, xCh2, xCh3, isB, xDct1, xMake, sFldD, sPutD, List.map_cons, List.map_nil, wps, wp1, List.foldl_cons, List.foldl_nil, ka, reduceCtorEq]
  rw [key _ _ _ rfl rfl rfl, bStep_bools H hk]
theorem LL2 (G : GrOk n m e) (H : HdOk m e h) (hn : n ≤ 1000) (hm : m ≤ 1000) {wr : List D → D} (hw : wr = .lst ∨ wr = .tup) (f0 : D) : ∀ (f : Nat) (Q : List En) (i : Nat), Gd n m (tl e h) h first Q → i ≤ Q.length → n < i + f →
    sWhile [5, 6, 7, 8] K_led_to_1 B_led_to_2 f (RL n m e (wr (hdD m h)) f0 Q (.imm (.int i)) .un .un .un .un) = some (.nx (RL n m e (wr (hdD m h)) f0 (bRun (tl e h) h m f Q i) (.imm (.int (bRun (tl e h) h m f Q i).length)) .un .un .un .un))
  | 0, Q, i, g, hi, hf => by have := g.len; omega
  | f + 1, Q, i, g, hi, hf => by
    have hl : dLen [.lst ((kys Q).map nD)] = some (.int Q.length) := by simp [dLen, kys]
    have gl := g.len
    cases hz : Q[i]? with
    | none =>
      have h1 : Q.length ≤ i := List.getElem?_eq_none_iff.mp hz
      have h2 : i = Q.length := by omega
      have e1 : bRun (tl e h) h m (f + 1) Q i = Q := by rw [bRun]; simp only [hz]
      rw [e1, ← h2]
      refine while_end f ?_
      have d1 : decide ((i : Int) < Q.length) = false := decide_eq_false (by omega)
      unfold K_led_to_1 RL
      simp only [sSeq, sSet, sSetN, sAsg, sDrop, sRet, sRetN, sIf, sPar, sAug, sAugL, sNil, xName, xC, xBin, xBinN, xBinT, xCall, xCallN, xNew, xTup, xLst, xLstRg, xTupRg, xRg1, xRg2, xTru, xNot, xAndT, xOrT, xAnd, xOr, xNotV, rdB, xIf, xNeg, xMet, xMet0, xMut, xMut0, aNil, aCons, vals, rdAll, DL.R.rd, oNone, oSome, xSlL, xSlT, gSet, gsNil, gsCons, gTupD, gLstD, gSubL, freeAt, isOw, kYes, List.getElem?_cons_zero, List.getElem?_cons_succ, List.set_cons_zero, List.set_cons_succ, Option.bind_some, Option.bind_none, if_true, if_false, Bool.false_eq_true, reduceIte, List.length_cons, List.length_nil, Bool.and_true, Bool.true_and, Bool.and_self, Bool.not_true, Bool.not_false, false_and, and_false, true_and, and_true, Option.isSome_some, xCallV, xCallVN, xCallB, xCh2, xCh3, isB, xDct1, xMake, sFldD, sPutD, List.map_cons, List.map_nil, hl, dLt_int, d1]
    | some z =>
      have h1 := at_lt hz
      have e1 : bRun (tl e h) h m (f + 1) Q i = bRun (tl e h) h m f (bTurn (tl e h) h m Q z) (i + 1) := by rw [bRun]; simp only [hz]
      have d1 : decide ((i : Int) < Q.length) = true := decide_eq_true (by omega)
      have hh : ∀ k, k < m → h k < n := fun k hk => (tl_lt G H hk).2
      obtain ⟨Z, er⟩ := foldl_pre (t := tl e h) (h := h) z (List.range m) Q
      have er : bTurn (tl e h) h m Q z = Q ++ Z := er
      have g' := g.turn hh (List.mem_of_getElem? hz)
      rw [e1, ← LL2 G H hn hm hw f0 f (bTurn (tl e h) h m Q z) (i + 1) g' (by rw [er, List.length_append]; omega) (by omega)]
      have ix : dIx (.lst ((kys Q).map nD)) (.int i) = some (.int z.v) := by
        show atI _ _ = _
        rw [atI_nat', kys, List.map_map, List.getElem?_map, hz]
        rfl
      have x1 := LL1 G H hn hm hw f0 g hz (.imm (.int i))
      rw [while_go (ρ1 := RL n m e (wr (hdD m h)) f0 Q (.imm (.int i)) .un .un .un .un) (ρ2 := RL n m e (wr (hdD m h)) f0 (bTurn (tl e h) h m Q z) (.imm (.int (i + 1 : Nat))) (.imm (.int z.v)) .un .un .un) f ?_ ?_]
      · unfold RL
        simp only [sSeq, sSet, sSetN, sAsg, sDrop, sRet, sRetN, sIf, sPar, sAug, sAugL, sNil, xName, xC, xBin, xBinN, xBinT, xCall, xCallN, xNew, xTup, xLst, xLstRg, xTupRg, xRg1, xRg2, xTru, xNot, xAndT, xOrT, xAnd, xOr, xNotV, rdB, xIf, xNeg, xMet, xMet0, xMut, xMut0, aNil, aCons, vals, rdAll, DL.R.rd, oNone, oSome, xSlL, xSlT, gSet, gsNil, gsCons, gTupD, gLstD, gSubL, freeAt, isOw, kYes, List.getElem?_cons_zero, List.getElem?_cons_succ, List.set_cons_zero, List.set_cons_succ, Option.bind_some, Option.bind_none, if_true, if_false, Bool.false_eq_true, reduceIte, List.length_cons, List.length_nil, Bool.and_true, Bool.true_and, Bool.and_self, Bool.not_true, Bool.not_false, false_and, and_false, true_and, and_true, Option.isSome_some, xCallV, xCallVN, xCallB, xCh2, xCh3, isB, xDct1, xMake, sFldD, sPutD, List.map_cons, List.map_nil, wps, wp1, List.foldl_cons, List.foldl_nil]
      · unfold K_led_to_1 RL
        simp only [sSeq, sSet, sSetN, sAsg, sDrop, sRet, sRetN, sIf, sPar, sAug, sAugL, sNil, xName, xC, xBin, xBinN, xBinT, xCall, xCallN, xNew, xTup, xLst, xLstRg, xTupRg, xRg1, xRg2, xTru, xNot, xAndT, xOrT, xAnd, xOr, xNotV, rdB, xIf, xNeg, xMet, xMet0, xMut, xMut0, aNil, aCons, vals, rdAll, DL.R.rd, oNone, oSome, xSlL, xSlT, gSet, gsNil, gsCons, gTupD, gLstD, gSubL, freeAt, isOw, kYes, List.getElem?_cons_zero, List.getElem?_cons_succ, List.set_cons_zero, List.set_cons_succ, Option.bind_some, Option.bind_none, if_true, if_false, Bool.false_eq_true, reduceIte, List.length_cons, List.length_nil, Bool.and_true, Bool.true_and, Bool.and_self, Bool.not_true, Bool.not_false, false_and, and_false, true_and, and_true, Option.isSome_some, xCallV, xCallVN, xCallB, xCh2, xCh3, isB, xDct1, xMake, sFldD, sPutD, List.map_cons, List.map_nil, hl, dLt_int, d1]
      · unfold RL at x1 ⊢
        unfold B_led_to_2
        simp only [sSeq, sSet, sSetN, sAsg, sDrop, sRet, sRetN, sIf, sPar, sAug, sAugL, sNil, xName, xC, xBin, xBinN, xBinT, xCall, xCallN, xNew, xTup, xLst, xLstRg, xTupRg, xRg1, xRg2, xTru, xNot, xAndT, xOrT, xAnd, xOr, xNotV, rdB, xIf, xNeg, xMet, xMet0, xMut, xMut0, aNil, aCons, vals, rdAll, DL.R.rd, oNone, oSome, xSlL, xSlT, gSet, gsNil, gsCons, gTupD, gLstD, gSubL, freeAt, isOw, kYes, List.getElem?_cons_zero, List.getElem?_cons_succ, List.set_cons_zero, List.set_cons_succ, Option.bind_some, Option.bind_none, if_true, if_false, Bool.false_eq_true, reduceIte, List.length_cons, List.length_nil, Bool.and_true, Bool.true_and, Bool.and_self, Bool.not_true, Bool.not_false, false_and, and_false, true_and, and_true, Option.isSome_some, xCallV, xCallVN, xCallB, xCh2, xCh3, isB, xDct1, xMake, sFldD, sPutD, List.map_cons, List.map_nil, ix, x1, dAdd_int, Int.natCast_add, Int.natCast_one]
theorem led_eq (G : GrOk n m e) (H : HdOk m e h) (hn : n < 40) (hm : m ≤ 1000) {wr : List D → D} (hw : wr = .lst ∨ wr = .tup) (hf : first < n) :
    m_led_to [.imm (gO n m e), .imm (wr (hdD m h)), .imm (.int first)] = some (.lst ((kys (bRun (tl e h) h m 40 [root first] 0)).map nD), [.imm (gO n m e), .imm (wr (hdD m h)), .imm (.int first)]) := by
  have x1 := LL2 (first := first) G H (by omega) hm hw (.int first) 40 [root first] 0 (.one hf) (by simp) (by omega)
  have hr : (kys [root first]).map nD = [.int first] := rfl
  generalize bRun (tl e h) h m 40 [root first] 0 = Q at x1 ⊢
  refine fnD_rt (b := true) (ρ' := [.imm (gO n m e), .imm (wr (hdD m h)), .imm (.int first), .un, .imm (.int Q.length), .un, .un, .un, .un]) ?_ rfl (.inl rfl) rfl
  show b_led_to [.imm (gO n m e), .imm (wr (hdD m h)), .imm (.int first), .un, .un, .un, .un, .un, .un] = _
  unfold b_led_to L_led_to_2
  unfold RL at x1
  rw [hr] at x1
  have g1 : Grd (0 + 1 ≤ sizeLine) = True := grdN (by omega)
  simp only [Int.natCast_zero] at x1
  simp only [sSeq, sSet, sSetN, sAsg, sDrop, sRet, sRetN, sIf, sPar, sAug, sAugL, sNil, xName, xC, xBin, xBinN, xBinT, xCall, xCallN, xNew, xTup, xLst, xLstRg, xTupRg, xRg1, xRg2, xTru, xNot, xAndT, xOrT, xAnd, xOr, xNotV, rdB, xIf, xNeg, xMet, xMet0, xMut, xMut0, aNil, aCons, vals, rdAll, DL.R.rd, oNone, oSome, xSlL, xSlT, gSet, gsNil, gsCons, gTupD, gLstD, gSubL, freeAt, isOw, kYes, List.getElem?_cons_zero, List.getElem?_cons_succ, List.set_cons_zero, List.set_cons_succ, Option.bind_some, Option.bind_none, if_true, if_false, Bool.false_eq_true, reduceIte, List.length_cons, List.length_nil, Bool.and_true, Bool.true_and, Bool.and_self, Bool.not_true, Bool.not_false, false_and, and_false, true_and, and_true, Option.isSome_some, xCallV, xCallVN, xCallB, xCh2, xCh3, isB, xDct1, xMake, sFldD, sPutD, List.map_cons, List.map_nil, g1, x1]
end
end K59

set_option maxRecDepth 100000
namespace K59
open PySem PySem.Spec PyProof.Rows L2 DL
section
variable {n m : Nat} {e : Nat → Nat × Nat} {h : Nat → Nat} {first : Nat}
/-! _law_far -/
def fr (x : En) : D := .int x.d
def RF (m : Nat) (e : Nat → Nat × Nat) (hd f0 : D) (Q : List En) (s5 s6 s7 : Slot) : Ev := [.imm (.tup (edD m e)), .imm hd, .imm f0, .ow false (dcQ fr Q), .ow false (.lst ((kys Q).map nD)), s5, s6, s7]
theorem LF1 (G : GrOk n m e) (H : HdOk m e h) (hn : n ≤ 1000) (hm : m ≤ 1000) {wr : List D → D} (hw : wr = .lst ∨ wr = .tup) (f0 : D) {Q : List En} (g : Gd n m (tl e h) h first Q) {i : Nat} {z : En} (hz : Q[i]? = some z) :
    L__law_far_1 (RF m e (wr (hdD m h)) f0 Q (.imm (.int i)) .un .un) = some (.nx (RF m e (wr (hdD m h)) f0 (bTurn (tl e h) h m Q z) (.imm (.int i)) .un .un)) := by
  unfold L__law_far_1
  have hL : dLen [.tup (edD m e)] = some (.int m) := lenT _ _
  have hfi : iRg1 (xCall dLen (aCons (xName 0) aNil)) (RF m e (wr (hdD m h)) f0 Q (.imm (.int i)) .un .un) = some (((List.range m).map nD, none), RF m e (wr (hdD m h)) f0 Q (.imm (.int i)) .un .un) := iRg1_nat (by unfold RF; simp only [sSeq, sSet, sSetN, sAsg, sDrop, sRet, sRetN, sIf, sPar, sAug, sAugL, sNil, xName, xC, xBin, xBinN, xBinT, xCall, xCallN, xNew, xTup, xLst, xLstRg, xTupRg, xRg1, xRg2, xTru, xNot, xAndT, xOrT, xAnd, xOr, xNotV, rdB, xIf, xNeg, xMet, xMet0, xMut, xMut0, aNil, aCons, vals, rdAll, DL.R.rd, oNone, oSome, xSlL, xSlT, gSet, gsNil, gsCons, gTupD, gLstD, gSubL, freeAt, isOw, kYes, List.getElem?_cons_zero, List.getElem?_cons_succ, List.set_cons_zero, List.set_cons_succ, Option.bind_some, Option.bind_none, if_true, if_false, Bool.false_eq_true, reduceIte, List.length_cons, List.length_nil, Bool.and_true, Bool.true_and, Bool.and_self, Bool.not_true, Bool.not_false, false_and, and_false, true_and, and_true, Option.isSome_some, xCallV, xCallVN, xCallB, xCh2, xCh3, isB, xDct1, xMake, sFldD, sPutD, List.map_cons, List.map_nil, hL]) (by omega)
  refine (sFor_run (tmp := [6, 7]) (g := gSet 6) (bd := B__law_far_1) nD (fun Q => RF m e (wr (hdD m h)) f0 Q (.imm (.int i)) .un .un) (bStep (tl e h) h z) (fun _ Q => Gd n m (tl e h) h first Q ∧ Q[i]? = some z) (List.range m) Q hfi ⟨g, hz⟩ fun _ k Q hk ⟨g, hz⟩ => ?_).1
  have hk := List.mem_range.mp hk
  obtain ⟨t1, t2⟩ := tl_lt G H hk
  refine ⟨g.at hz hk t2, ?_⟩
  have i1 : dIx (.tup (edD m e)) (.int k) = some (pD (e k)) := ixT _ hk
  have i2 : dIx (wr (hdD m h)) (.int k) = some (.int (h k)) := ixW hw _ hk
  have i3 : dIx (.lst ((kys Q).map nD)) (.int i) = some (.int z.v) := by
    show atI _ _ = _
    rw [atI_nat', kys, List.map_map, List.getElem?_map, hz]
    rfl
  have i4 := notIn_Q fr Q (h k)
  have i5 := tl_int H hk
  have gl := g.len
  have g3 : Grd (((kys Q).map nD).length < sizeLine) = True := grdS (by simp [kys]; omega)
  have g4 : Grd ((dcK fr Q).length < sizeLine) = True := grdS (by simp [dcK]; omega)
  have g5 : Grd (((kys Q).map nD).length < sizeLine) = True := g3
  have ka := kys_app Q ⟨h k, z.v, k, z.d + 1⟩
  have pt := fun hv => put_Q fr (Q := Q) (v := h k) hv (.int ((z.d : Int) + 1))
  have gz : dGetK (dcQ fr Q) (.int z.v) = some (.int z.d) := get_Q g fr (List.mem_of_getElem? hz)
  have key : ∀ b2 b3 : Bool, ((tl e h k : Int) == (z.v : Nat)) = b2 → decide (h k ∈ kys Q) = b3 →
      turnF [6, 7] (gSet 6) B__law_far_1 (nD k) (RF m e (wr (hdD m h)) f0 Q (.imm (.int i)) .un .un) = some (RF m e (wr (hdD m h)) f0 (if b2 = true ∧ b3 = false then Q ++ [⟨h k, z.v, k, z.d + 1⟩] else Q) (.imm (.int i)) .un .un) := by
    intro b2 b3 e2 e3
    rw [e3] at i4
    generalize wr (hdD m h) = hd at i2
    unfold turnF B__law_far_1 RF
    generalize hks : (kys Q).map nD = ks at i3 g3 ka
    cases b2 with
    | false =>
      simp only [sSeq, sSet, sSetN, sAsg, sDrop, sRet, sRetN, sIf, sPar, sAug, sAugL, sNil, xName, xC, xBin, xBinN, xBinT, xCall, xCallN, xNew, xTup, xLst, xLstRg, xTupRg, xRg1, xRg2, xTru, xNot, xAndT, xOrT, xAnd, xOr, xNotV, rdB, xIf, xNeg, xMet, xMet0, xMut, xMut0, aNil, aCons, vals, rdAll, DL.R.rd, oNone, oSome, xSlL, xSlT, gSet, gsNil, gsCons, gTupD, gLstD, gSubL, freeAt, isOw, kYes, List.getElem?_cons_zero, List.getElem?_cons_succ, List.set_cons_zero, List.set_cons_succ, Option.bind_some, Option.bind_none, if_true, if_false, Bool.false_eq_true, reduceIte, List.length_cons, List.length_nil, Bool.and_true, Bool.true_and, Bool.and_self, Bool.not_true, Bool.not_false, false_and, and_false, true_and, and_true, Option.isSome_some, xCallV, xCallVN, xCallB, xCh2, xCh3, isB, xDct1, xMake, sFldD, sPutD, List.map_cons, List.map_nil, nD, i1, dIx_0, dIx_1, i2, dPlus_int, dSub_int, i5, i3, dEq_int, e2]
      simp only [sSeq, sSet, sSetN, sAsg, sDrop, sRet, sRetN, sIf, sPar, sAug, sAugL, sNil, xName, xC, xBin, xBinN, xBinT, xCall, xCallN, xNew, xTup, xLst, xLstRg, xTupRg, xRg1, xRg2, xTru, xNot, xAndT, xOrT, xAnd, xOr, xNotV, rdB, xIf, xNeg, xMet, xMet0, xMut, xMut0, aNil, aCons, vals, rdAll, DL.R.rd, oNone, oSome, xSlL, xSlT, gSet, gsNil, gsCons, gTupD, gLstD, gSubL, freeAt, isOw, kYes, List.getElem?_cons_zero, List.getElem?_cons_succ, List.set_cons_zero, List.set_cons_succ, Option.bind_some, Option.bind_none, if_true, if_false, Bool.false_eq_true, reduceIte, List.length_cons, List.length_nil, Bool.and_true, Bool.true_and, Bool.and_self, Bool.not_true, Bool.not_false, false_and, and_false, true_and, and_true, Option.isSome_some, xCallV, xCallVN, xCallB, xCh2, xCh3, isB, xDct1, xMake, sFldD, sPutD, List.map_cons, List.map_nil, wps, wp1, List.foldl_cons, List.foldl_nil, hks, reduceCtorEq]
    | true =>
      cases b3 with
      | true =>
        simp only [sSeq, sSet, sSetN, sAsg, sDrop, sRet, sRetN, sIf, sPar, sAug, sAugL, sNil, xName, xC, xBin, xBinN, xBinT, xCall, xCallN, xNew, xTup, xLst, xLstRg, xTupRg, xRg1, xRg2, xTru, xNot, xAndT, xOrT, xAnd, xOr, xNotV, rdB, xIf, xNeg, xMet, xMet0, xMut, xMut0, aNil, aCons, vals, rdAll, DL.R.rd, oNone, oSome, xSlL, xSlT, gSet, gsNil, gsCons, gTupD, gLstD, gSubL, freeAt, isOw, kYes, List.getElem?_cons_zero, List.getElem?_cons_succ, List.set_cons_zero, List.set_cons_succ, Option.bind_some, Option.bind_none, if_true, if_false, Bool.false_eq_true, reduceIte, List.length_cons, List.length_nil, Bool.and_true, Bool.true_and, Bool.and_self, Bool.not_true, Bool.not_false, false_and, and_false, true_and, and_true, Option.isSome_some, xCallV, xCallVN, xCallB, xCh2, xCh3, isB, xDct1, xMake, sFldD, sPutD, List.map_cons, List.map_nil, nD, i1, dIx_0, dIx_1, i2, dPlus_int, dSub_int, i5, i3, dEq_int, e2, i4]
        simp only [sSeq, sSet, sSetN, sAsg, sDrop, sRet, sRetN, sIf, sPar, sAug, sAugL, sNil, xName, xC, xBin, xBinN, xBinT, xCall, xCallN, xNew, xTup, xLst, xLstRg, xTupRg, xRg1, xRg2, xTru, xNot, xAndT, xOrT, xAnd, xOr, xNotV, rdB, xIf, xNeg, xMet, xMet0, xMut, xMut0, aNil, aCons, vals, rdAll, DL.R.rd, oNone, oSome, xSlL, xSlT, gSet, gsNil, gsCons, gTupD, gLstD, gSubL, freeAt, isOw, kYes, List.getElem?_cons_zero, List.getElem?_cons_succ, List.set_cons_zero, List.set_cons_succ, Option.bind_some, Option.bind_none, if_true, if_false, Bool.false_eq_true, reduceIte, List.length_cons, List.length_nil, Bool.and_true, Bool.true_and, Bool.and_self, Bool.not_true, Bool.not_false, false_and, and_false, true_and, and_true, Option.isSome_some, xCallV, xCallVN, xCallB, xCh2, xCh3, isB, xDct1, xMake, sFldD, sPutD, List.map_cons, List.map_nil, wps, wp1, List.foldl_cons, List.foldl_nil, hks, reduceCtorEq]
      | false =>
        have pt := pt (of_decide_eq_false e3)
        have ez : (tl e h k : Int) = (z.v : Nat) := eq_of_beq e2
        have da : dcK fr (Q ++ [⟨h k, z.v, k, z.d + 1⟩]) = dcK fr Q ++ [(.inl (h k : Int), .int ((z.d : Int) + 1))] := by simp [dcK, fr]
        have e2' : ((z.v : Int) == (z.v : Nat)) = true := beq_self_eq_true _
        simp only [sSeq, sSet, sSetN, sAsg, sDrop, sRet, sRetN, sIf, sPar, sAug, sAugL, sNil, xName, xC, xBin, xBinN, xBinT, xCall, xCallN, xNew, xTup, xLst, xLstRg, xTupRg, xRg1, xRg2, xTru, xNot, xAndT, xOrT, xAnd, xOr, xNotV, rdB, xIf, xNeg, xMet, xMet0, xMut, xMut0, aNil, aCons, vals, rdAll, DL.R.rd, oNone, oSome, xSlL, xSlT, gSet, gsNil, gsCons, gTupD, gLstD, gSubL, freeAt, isOw, kYes, List.getElem?_cons_zero, List.getElem?_cons_succ, List.set_cons_zero, List.set_cons_succ, Option.bind_some, Option.bind_none, if_true, if_false, Bool.false_eq_true, reduceIte, List.length_cons, List.length_nil, Bool.and_true, Bool.true_and, Bool.and_self, Bool.not_true, Bool.not_false, false_and, and_false, true_and, and_true, Option.isSome_some, xCallV, xCallVN, xCallB, xCh2, xCh3, isB, xDct1, xMake, sFldD, sPutD, List.map_cons, List.map_nil, nD, i1, dIx_0, dIx_1, i2, dPlus_int, dSub_int, i5, ez, i3, dEq_int, e2', i4, gApp, g3, gz]
        unfold dcQ at *
        simp only [sSeq, sSet, sSetN, sAsg, sDrop, sRet, sRetN, sIf, sPar, sAug, sAugL, sNil, xName, xC, xBin, xBinN, xBinT, xCall, xCallN, xNew, xTup, xLst, xLstRg, xTupRg, xRg1, xRg2, xTru, xNot, xAndT, xOrT, xAnd, xOr, xNotV, rdB, xIf, xNeg, xMet, xMet0, xMut, xMut0, aNil, aCons, vals, rdAll, DL.R.rd, oNone, oSome, xSlL, xSlT, gSet, gsNil, gsCons, gTupD, gLstD, gSubL, freeAt, isOw, kYes, List.getElem?_cons_zero, List.getElem?_cons_succ, List.set_cons_zero, List.set_cons_succ, Option.bind_some, Option.bind_none, if_true, if_false, Bool.false_eq_true, reduceIte, List.length_cons, List.length_nil, Bool.and_true, Bool.true_and, Bool.and_self, Bool.not_true, Bool.not_false, false_and, and_false, true_and, and_true, Option.isSome_some, xCallV, xCallVN, xCallB, xCh2, xCh3, isB, xDct1, xMake, sFldD, sPutD, List.map_cons, List.map_nil, keyD, pt, g4, g3, i2, gApp, reduceCtorEq]
        simp only [sSeq, sSet, sSetN, sAsg, sDrop, sRet, sRetN, sIf, sPar, sAug, sAugL, sNil, xName, xC, xBin, xBinN, xBinT, xCall, xCallN, xNew, xTup, xLst, xLstRg, xTupRg, xRg1, xRg2, xTru, xNot, xAndT, xOrT, xAnd, xOr, xNotV, rdB, xIf, xNeg, xMet, xMet0, xMut, xMut0, aNil, aCons, vals, rdAll, DL.R.rd, oNone, oSome, xSlL, xSlT, gSet, gsNil, gsCons, gTupD, gLstD, gSubL, freeAt, isOw, kYes, List.getElem?_cons_zero, List.getElem?_cons_succ, List.set_cons_zero, List.set_cons_succ, Option.bind_some, Option.bind_none, if_true, if_false, Bool.false_eq_true, reduceIte, List.length_cons, List.length_nil, Bool.and_true, Bool.true_and, Bool.and_self, Bool.not_true, Bool.not_false, false_and, and_false, true_and, and_true, Option.isSome_some, xCallV, xCallVN, xCallB, xCh2, xCh3, isB, xDct1, xMake, sFldD, sPutD, List.map_cons, List.map_nil, wps, wp1, List.foldl_cons, List.foldl_nil, ka, da]
  rw [key _ _ rfl rfl]
  congr 2
  unfold bStep
  rw [beq_nat]
  by_cases c : tl e h k = z.v
  · by_cases c3 : h k ∈ kys Q
    · simp [c, c3]
    · simp [c, c3]
  · simp [c]
theorem LF2 (G : GrOk n m e) (H : HdOk m e h) (hn : n ≤ 1000) (hm : m ≤ 1000) {wr : List D → D} (hw : wr = .lst ∨ wr = .tup) (f0 : D) : ∀ (f : Nat) (Q : List En) (i : Nat), Gd n m (tl e h) h first Q → i ≤ Q.length → n < i + f →
    sWhile [6, 7] K__law_far_1 B__law_far_2 f (RF m e (wr (hdD m h)) f0 Q (.imm (.int i)) .un .un) = some (.nx (RF m e (wr (hdD m h)) f0 (bRun (tl e h) h m f Q i) (.imm (.int (bRun (tl e h) h m f Q i).length)) .un .un))
  | 0, Q, i, g, hi, hf => by have := g.len; omega
  | f + 1, Q, i, g, hi, hf => by
    have hl : dLen [.lst ((kys Q).map nD)] = some (.int Q.length) := by simp [dLen, kys]
    have gl := g.len
    cases hz : Q[i]? with
    | none =>
      have h1 : Q.length ≤ i := List.getElem?_eq_none_iff.mp hz
      have h2 : i = Q.length := by omega
      have e1 : bRun (tl e h) h m (f + 1) Q i = Q := by rw [bRun]; simp only [hz]
      rw [e1, ← h2]
      refine while_end f ?_
      have d1 : decide ((i : Int) < Q.length) = false := decide_eq_false (by omega)
      unfold K__law_far_1 RF
      simp only [sSeq, sSet, sSetN, sAsg, sDrop, sRet, sRetN, sIf, sPar, sAug, sAugL, sNil, xName, xC, xBin, xBinN, xBinT, xCall, xCallN, xNew, xTup, xLst, xLstRg, xTupRg, xRg1, xRg2, xTru, xNot, xAndT, xOrT, xAnd, xOr, xNotV, rdB, xIf, xNeg, xMet, xMet0, xMut, xMut0, aNil, aCons, vals, rdAll, DL.R.rd, oNone, oSome, xSlL, xSlT, gSet, gsNil, gsCons, gTupD, gLstD, gSubL, freeAt, isOw, kYes, List.getElem?_cons_zero, List.getElem?_cons_succ, List.set_cons_zero, List.set_cons_succ, Option.bind_some, Option.bind_none, if_true, if_false, Bool.false_eq_true, reduceIte, List.length_cons, List.length_nil, Bool.and_true, Bool.true_and, Bool.and_self, Bool.not_true, Bool.not_false, false_and, and_false, true_and, and_true, Option.isSome_some, xCallV, xCallVN, xCallB, xCh2, xCh3, isB, xDct1, xMake, sFldD, sPutD, List.map_cons, List.map_nil, hl, dLt_int, d1]
    | some z =>
      have h1 := at_lt hz
      have e1 : bRun (tl e h) h m (f + 1) Q i = bRun (tl e h) h m f (bTurn (tl e h) h m Q z) (i + 1) := by rw [bRun]; simp only [hz]
      have d1 : decide ((i : Int) < Q.length) = true := decide_eq_true (by omega)
      have hh : ∀ k, k < m → h k < n := fun k hk => (tl_lt G H hk).2
      obtain ⟨Z, er⟩ := foldl_pre (t := tl e h) (h := h) z (List.range m) Q
      have er : bTurn (tl e h) h m Q z = Q ++ Z := er
      have g' := g.turn hh (List.mem_of_getElem? hz)
      rw [e1, ← LF2 G H hn hm hw f0 f (bTurn (tl e h) h m Q z) (i + 1) g' (by rw [er, List.length_append]; omega) (by omega)]
      have x1 := LF1 G H hn hm hw f0 g hz
      rw [while_go (ρ1 := RF m e (wr (hdD m h)) f0 Q (.imm (.int i)) .un .un) (ρ2 := RF m e (wr (hdD m h)) f0 (bTurn (tl e h) h m Q z) (.imm (.int (i + 1 : Nat))) .un .un) f ?_ ?_]
      · unfold RF
        simp only [sSeq, sSet, sSetN, sAsg, sDrop, sRet, sRetN, sIf, sPar, sAug, sAugL, sNil, xName, xC, xBin, xBinN, xBinT, xCall, xCallN, xNew, xTup, xLst, xLstRg, xTupRg, xRg1, xRg2, xTru, xNot, xAndT, xOrT, xAnd, xOr, xNotV, rdB, xIf, xNeg, xMet, xMet0, xMut, xMut0, aNil, aCons, vals, rdAll, DL.R.rd, oNone, oSome, xSlL, xSlT, gSet, gsNil, gsCons, gTupD, gLstD, gSubL, freeAt, isOw, kYes, List.getElem?_cons_zero, List.getElem?_cons_succ, List.set_cons_zero, List.set_cons_succ, Option.bind_some, Option.bind_none, if_true, if_false, Bool.false_eq_true, reduceIte, List.length_cons, List.length_nil, Bool.and_true, Bool.true_and, Bool.and_self, Bool.not_true, Bool.not_false, false_and, and_false, true_and, and_true, Option.isSome_some, xCallV, xCallVN, xCallB, xCh2, xCh3, isB, xDct1, xMake, sFldD, sPutD, List.map_cons, List.map_nil, wps, wp1, List.foldl_cons, List.foldl_nil]
      · unfold K__law_far_1 RF
        simp only [sSeq, sSet, sSetN, sAsg, sDrop, sRet, sRetN, sIf, sPar, sAug, sAugL, sNil, xName, xC, xBin, xBinN, xBinT, xCall, xCallN, xNew, xTup, xLst, xLstRg, xTupRg, xRg1, xRg2, xTru, xNot, xAndT, xOrT, xAnd, xOr, xNotV, rdB, xIf, xNeg, xMet, xMet0, xMut, xMut0, aNil, aCons, vals, rdAll, DL.R.rd, oNone, oSome, xSlL, xSlT, gSet, gsNil, gsCons, gTupD, gLstD, gSubL, freeAt, isOw, kYes, List.getElem?_cons_zero, List.getElem?_cons_succ, List.set_cons_zero, List.set_cons_succ, Option.bind_some, Option.bind_none, if_true, if_false, Bool.false_eq_true, reduceIte, List.length_cons, List.length_nil, Bool.and_true, Bool.true_and, Bool.and_self, Bool.not_true, Bool.not_false, false_and, and_false, true_and, and_true, Option.isSome_some, xCallV, xCallVN, xCallB, xCh2, xCh3, isB, xDct1, xMake, sFldD, sPutD, List.map_cons, List.map_nil, hl, dLt_int, d1]
      · unfold RF at x1 ⊢
        unfold B__law_far_2
        simp only [sSeq, sSet, sSetN, sAsg, sDrop, sRet, sRetN, sIf, sPar, sAug, sAugL, sNil, xName, xC, xBin, xBinN, xBinT, xCall, xCallN, xNew, xTup, xLst, xLstRg, xTupRg, xRg1, xRg2, xTru, xNot, xAndT, xOrT, xAnd, xOr, xNotV, rdB, xIf, xNeg, xMet, xMet0, xMut, xMut0, aNil, aCons, vals, rdAll, DL.R.rd, oNone, oSome, xSlL, xSlT, gSet, gsNil, gsCons, gTupD, gLstD, gSubL, freeAt, isOw, kYes, List.getElem?_cons_zero, List.getElem?_cons_succ, List.set_cons_zero, List.set_cons_succ, Option.bind_some, Option.bind_none, if_true, if_false, Bool.false_eq_true, reduceIte, List.length_cons, List.length_nil, Bool.and_true, Bool.true_and, Bool.and_self, Bool.not_true, Bool.not_false, false_and, and_false, true_and, and_true, Option.isSome_some, xCallV, xCallVN, xCallB, xCh2, xCh3, isB, xDct1, xMake, sFldD, sPutD, List.map_cons, List.map_nil, x1, dPlus_int, Int.natCast_add, Int.natCast_one]
theorem far_eq (G : GrOk n m e) (H : HdOk m e h) (hn : n < 40) (hm : m ≤ 1000) {wr : List D → D} (hw : wr = .lst ∨ wr = .tup) (hf : first < n) :
    m__law_far [.imm (.tup (edD m e)), .imm (wr (hdD m h)), .imm (.int first)] = some (dcQ fr (bRun (tl e h) h m 40 [root first] 0), [.imm (.tup (edD m e)), .imm (wr (hdD m h)), .imm (.int first)]) := by
  have x1 := LF2 (first := first) G H (by omega) hm hw (.int first) 40 [root first] 0 (.one hf) (by simp) (by omega)
  have hr : (kys [root first]).map nD = [.int first] := rfl
  have hr2 : dcQ fr [root first] = .dct [(.inl first, .int 0)] := rfl
  generalize bRun (tl e h) h m 40 [root first] 0 = Q at x1 ⊢
  refine fnD_rt (b := true) (ρ' := [.imm (.tup (edD m e)), .imm (wr (hdD m h)), .imm (.int first), .un, .ow false (.lst ((kys Q).map nD)), .imm (.int Q.length), .un, .un]) ?_ rfl (.inl rfl) rfl
  show b__law_far [.imm (.tup (edD m e)), .imm (wr (hdD m h)), .imm (.int first), .un, .un, .un, .un, .un] = _
  unfold b__law_far L__law_far_2
  unfold RF at x1
  rw [hr, hr2] at x1
  have g1 : Grd (0 + 1 ≤ sizeLine) = True := grdN (by omega)
  simp only [Int.natCast_zero] at x1
  simp only [sSeq, sSet, sSetN, sAsg, sDrop, sRet, sRetN, sIf, sPar, sAug, sAugL, sNil, xName, xC, xBin, xBinN, xBinT, xCall, xCallN, xNew, xTup, xLst, xLstRg, xTupRg, xRg1, xRg2, xTru, xNot, xAndT, xOrT, xAnd, xOr, xNotV, rdB, xIf, xNeg, xMet, xMet0, xMut, xMut0, aNil, aCons, vals, rdAll, DL.R.rd, oNone, oSome, xSlL, xSlT, gSet, gsNil, gsCons, gTupD, gLstD, gSubL, freeAt, isOw, kYes, List.getElem?_cons_zero, List.getElem?_cons_succ, List.set_cons_zero, List.set_cons_succ, Option.bind_some, Option.bind_none, if_true, if_false, Bool.false_eq_true, reduceIte, List.length_cons, List.length_nil, Bool.and_true, Bool.true_and, Bool.and_self, Bool.not_true, Bool.not_false, false_and, and_false, true_and, and_true, Option.isSome_some, xCallV, xCallVN, xCallB, xCh2, xCh3, isB, xDct1, xMake, sFldD, sPutD, List.map_cons, List.map_nil, keyD, g1, x1]
end
end K59

set_option maxRecDepth 100000
namespace K59
open PySem PySem.Spec PyProof.Rows L2 DL
/-! ### a path turned round: the numbers -/
structure Turned (n m : Nat) (e : Nat → Nat × Nat) (h : Nat → Nat) (c last : Nat) (d : Nat) (fs : Nat → Nat) : Prop where
  hd : HdOk m e fs
  sc : ∀ v, (cnt (tl e fs) m v : Int) = cnt (tl e h) m v + (if v = last then 1 else 0) - (if v = c then 1 else 0)
  ch : cntS (fun k => !(fs k == h k)) m = d
def PathInv (n m : Nat) (e : Nat → Nat × Nat) (h : Nat → Nat) (Q : List En) (last D : Nat) (x : En) (fs : Nat → Nat) : Prop :=
  (∀ k, k < m → fs k ≠ h k → ∃ y ∈ Q, y.v = h k ∧ x.d < y.d) ∧ ∃ d, d + x.d = D ∧ Turned n m e h x.v last d fs
theorem path_step {n m : Nat} {e : Nat → Nat × Nat} {h : Nat → Nat} {first last : Nat} {Q : List En} {D : Nat} (G : GrOk n m e) (H : HdOk m e h) (g : Gd n m (tl e h) h first Q) {x : En} (hx : x ∈ Q) (hd : x.d ≠ 0) {fs : Nat → Nat} (I : PathInv n m e h Q last D x fs) :
    ∃ y ∈ Q, y.v = x.p ∧ y.d + 1 = x.d ∧ x.k < m ∧ PathInv n m e h Q last D y (fun j => if j = x.k then x.p else fs j) := by
  obtain ⟨I1, d, I2, ⟨I3, I4, I5⟩⟩ := I
  rcases g.par x hx with a | ⟨p1, p2, p3, y, p4, p5, p6⟩
  · rw [a] at hd; exact absurd rfl hd
  have e1 : fs x.k = h x.k := by
    rcases Classical.em (fs x.k = h x.k) with a | a
    · exact a
    · obtain ⟨y', q1, q2, q3⟩ := I1 x.k p1 a
      rw [g.inj q1 hx (by rw [q2, p3])] at q3
      omega
  have hne : x.p ≠ x.v := fun z => by
    have := g.inj p4 hx (by rw [p5, z])
    rw [this] at p6
    omega
  have tx : tl e fs x.k = x.p := by rw [← p2]; unfold tl; rw [e1]
  have tx2 : (e x.k).1 + (e x.k).2 - x.p = x.v := by
    rcases tl_ends H p1 with ⟨a, b⟩ | ⟨a, b⟩
    · omega
    · omega
  refine ⟨y, p4, p5, p6, p1, fun k hk hne2 => ?_, d + 1, by omega, fun k hk => ?_, fun v => ?_, ?_⟩
  · by_cases c : k = x.k
    · exact ⟨x, hx, by rw [c, p3], by omega⟩
    · simp only [if_neg c] at hne2
      obtain ⟨y', q1, q2, q3⟩ := I1 k hk hne2
      exact ⟨y', q1, q2, by omega⟩
  · by_cases c : k = x.k
    · simp only [if_pos c]
      rw [c]
      rcases tl_ends H p1 with ⟨a, b⟩ | ⟨a, b⟩
      · right; omega
      · left; omega
    · simp only [if_neg c]
      exact I3 k hk
  · have key := cntS_upd (c := fun k => tl e fs k == v) (c' := fun k => tl e (fun j => if j = x.k then x.p else fs j) k == v) (j := x.k) p1 fun k hk c => by
      show (tl e fs k == v) = ((e k).1 + (e k).2 - (if k = x.k then x.p else fs k) == v)
      rw [if_neg c]
      rfl
    have t2 : tl e (fun j => if j = x.k then x.p else fs j) x.k = x.v := by
      show (e x.k).1 + (e x.k).2 - (if x.k = x.k then x.p else fs x.k) = x.v
      rw [if_pos rfl, tx2]
    have i4 := I4 v
    simp only [tx, t2, beq_iff_eq] at key
    unfold cnt at i4 ⊢
    rw [p5]
    by_cases a : v = x.v
    · have b : ¬ v = x.p := fun z => hne (by rw [← z, a])
      rw [if_pos a] at i4
      rw [if_neg b]
      rw [if_neg (fun z => b z.symm), if_pos a.symm] at key
      omega
    · by_cases b : v = x.p
      · rw [if_neg a] at i4
        rw [if_pos b]
        rw [if_pos b.symm, if_neg (fun z => a z.symm)] at key
        omega
      · rw [if_neg a] at i4
        rw [if_neg b]
        rw [if_neg (fun z => b z.symm), if_neg (fun z => a z.symm)] at key
        omega
  · have key := cntS_upd (c := fun k => !(fs k == h k)) (c' := fun k => !((if k = x.k then x.p else fs k) == h k)) (j := x.k) p1 fun k hk c => by
      show (!(fs k == h k)) = _
      rw [if_neg c]
    have b1 : (!(fs x.k == h x.k)) = false := by rw [e1]; simp
    have b2 : (!((if x.k = x.k then x.p else fs x.k) == h x.k)) = true := by
      rw [if_pos rfl, p3]
      simp [hne]
    rw [b1, b2, if_neg (by decide), if_pos rfl] at key
    rw [I5] at key
    exact key
theorem path_start {n m : Nat} {e : Nat → Nat × Nat} {h : Nat → Nat} (H : HdOk m e h) (Q : List En) (x : En) : PathInv n m e h Q x.v x.d x h :=
  ⟨fun k _ z => absurd rfl z, 0, by omega, H, fun v => by omega, cntS_none fun k _ => by simp⟩
/-! ### turned_path -/
def wy (x : En) : D := if x.d = 0 then .non else .tup [.int x.p, .int x.k]
def Fr (s : Slot) : Prop := s = .un ∨ ∃ d, s = .imm d
theorem pop0 (x : D) (xs : List D) : gPopAt (.lst (x :: xs)) [.int 0] = some (.lst xs, x) := by
  unfold gPopAt
  simp only
  rw [if_pos (show Grd (-(2 ^ 63) ≤ (0 : Int) ∧ (0 : Int) < 2 ^ 63) from ⟨by omega, by omega⟩)]
  simp [seqIndex?]
section
variable {n m : Nat} {e : Nat → Nat × Nat} {h : Nat → Nat} {first : Nat}
def RT (n m : Nat) (e : Nat → Nat × Nat) (hd f0 l0 : D) (Q : List En) (ls : List D) (s6 s7 s10 : Slot) : Ev := [.imm (gO n m e), .imm hd, .imm f0, .imm l0, .ow false (dcQ wy Q), .ow false (.lst ls), s6, s7, .un, .un, s10]
theorem LT1 (G : GrOk n m e) (H : HdOk m e h) (hn : n ≤ 1000) (hm : m ≤ 1000) {wr : List D → D} (hw : wr = .lst ∨ wr = .tup) (f0 l0 : D) {Q : List En} (g : Gd n m (tl e h) h first Q) {i : Nat} {z : En} (hz : Q[i]? = some z) {s7 : Slot} (f7 : Fr s7) :
    ∃ s7', Fr s7' ∧ L_turned_path_1 (RT n m e (wr (hdD m h)) f0 l0 Q (((kys Q).drop (i + 1)).map nD) (.imm (.int z.v)) s7 .un) = some (.nx (RT n m e (wr (hdD m h)) f0 l0 (bTurn (tl e h) h m Q z) (((kys (bTurn (tl e h) h m Q z)).drop (i + 1)).map nD) (.imm (.int z.v)) s7' .un)) := by
  unfold L_turned_path_1
  have hfi : iRg1 (xAttr ["Graphic"] "size" (xName 0)) (RT n m e (wr (hdD m h)) f0 l0 Q (((kys Q).drop (i + 1)).map nD) (.imm (.int z.v)) s7 .un) = some (((List.range m).map nD, none), RT n m e (wr (hdD m h)) f0 l0 Q (((kys Q).drop (i + 1)).map nD) (.imm (.int z.v)) s7 .un) := iRg1_nat (at_size ..) (by omega)
  have run := sFor_run (tmp := [8, 9]) (g := gSet 7) (bd := B_turned_path_1) nD (fun s : List En × Slot => RT n m e (wr (hdD m h)) f0 l0 s.1 (((kys s.1).drop (i + 1)).map nD) (.imm (.int z.v)) s.2 .un) (fun s k => (bStep (tl e h) h z s.1 k, .imm (nD k))) (fun _ s => (Gd n m (tl e h) h first s.1 ∧ s.1[i]? = some z) ∧ Fr s.2) (List.range m) (Q, s7) hfi ⟨⟨g, hz⟩, f7⟩ ?_
  · obtain ⟨r1, r2, r3⟩ := run
    have fold : ∀ (ks : List Nat) (s : List En × Slot), (ks.foldl (fun (s : List En × Slot) k => (bStep (tl e h) h z s.1 k, Slot.imm (nD k))) s).1 = ks.foldl (bStep (tl e h) h z) s.1 := by
      intro ks
      induction ks with
      | nil => intro s; rfl
      | cons k ks ih => intro s; rw [List.foldl_cons, List.foldl_cons, ih]
    have f1 := fold (List.range m) (Q, s7)
    generalize (List.range m).foldl (fun (s : List En × Slot) k => (bStep (tl e h) h z s.1 k, Slot.imm (nD k))) (Q, s7) = w at r1 r2 r3 f1
    refine ⟨w.2, r3, ?_⟩
    rw [show bTurn (tl e h) h m Q z = w.1 from f1.symm]
    exact r1
  · intro _ k s hk ⟨⟨g, hz⟩, f7⟩
    obtain ⟨Q, s7⟩ := s
    dsimp only at g hz f7 ⊢
    have hk := List.mem_range.mp hk
    obtain ⟨t1, t2⟩ := tl_lt G H hk
    refine ⟨⟨g.at hz hk t2, .inr ⟨_, rfl⟩⟩, ?_⟩
    have i1 : dIx (.tup (edD m e)) (.int k) = some (pD (e k)) := ixT _ hk
    have i2 : dIx (wr (hdD m h)) (.int k) = some (.int (h k)) := ixW hw _ hk
    have i3 := inU z.v (e k).1 (e k).2
    have i4 := notIn_Q wy Q (h k)
    have gl := g.len
    have hi := at_lt hz
    have g2 : Grd (0 + 1 + 1 ≤ sizeLine) = True := grdN (by omega)
    have g3 : Grd ((((kys Q).drop (i + 1)).map nD).length < sizeLine) = True := grdS (by simp [kys]; omega)
    have g4 : Grd ((dcK wy Q).length < sizeLine) = True := grdS (by simp [dcK]; omega)
    have ka : ((kys (Q ++ [⟨h k, z.v, k, z.d + 1⟩])).drop (i + 1)).map nD = ((kys Q).drop (i + 1)).map nD ++ [.int (h k)] := by
      have : kys (Q ++ [⟨h k, z.v, k, z.d + 1⟩]) = kys Q ++ [h k] := by simp [kys]
      rw [this, List.drop_append_of_le_length (by simp [kys]; omega), List.map_append]
      rfl
    have pt := fun hv => put_Q wy (Q := Q) (v := h k) hv (.tup [.int z.v, .int k])
    have f7' : ∀ ρ', freeAt ([.imm (gO n m e), .imm (wr (hdD m h)), .imm f0, .imm l0, .ow false (dcQ wy Q), .ow false (.lst (((kys Q).drop (i + 1)).map nD)), .imm (.int z.v), s7, .un, .un, .un] ++ ρ') 7 = true := by
      intro ρ'
      rcases f7 with rfl | ⟨d, rfl⟩ <;> rfl
    have f7' := f7' []
    simp only [List.append_nil] at f7'
    have g0 : gSet 7 (nD k) (RT n m e (wr (hdD m h)) f0 l0 Q (((kys Q).drop (i + 1)).map nD) (.imm (.int z.v)) s7 .un) = some (RT n m e (wr (hdD m h)) f0 l0 Q (((kys Q).drop (i + 1)).map nD) (.imm (.int z.v)) (.imm (nD k)) .un) := by
      unfold gSet RT
      rw [f7', if_pos rfl]
      rfl
    have key : ∀ b1 b2 b3 : Bool, decide (z.v = (e k).1 ∨ z.v = (e k).2) = b1 → ((h k : Int) == (e k).1 + (e k).2 - (z.v : Nat)) = b2 → decide (h k ∈ kys Q) = b3 →
        turnF [8, 9] (gSet 7) B_turned_path_1 (nD k) (RT n m e (wr (hdD m h)) f0 l0 Q (((kys Q).drop (i + 1)).map nD) (.imm (.int z.v)) s7 .un) = some (RT n m e (wr (hdD m h)) f0 l0 (if b1 = true ∧ b2 = true ∧ b3 = false then Q ++ [⟨h k, z.v, k, z.d + 1⟩] else Q) (((kys (if b1 = true ∧ b2 = true ∧ b3 = false then Q ++ [⟨h k, z.v, k, z.d + 1⟩] else Q)).drop (i + 1)).map nD) (.imm (.int z.v)) (.imm (nD k)) .un) := by
      intro b1 b2 b3 e1 e2 e3
      rw [e1] at i3
      rw [e3] at i4
      generalize wr (hdD m h) = hd at i2 g0
      unfold turnF
      rw [g0]
      unfold B_turned_path_1 RT
      generalize hks : ((kys Q).drop (i + 1)).map nD = ks at g3 ka
      cases b1 with
      | false =>
        simp only [sSeq, sSet, sSetN, sAsg, sDrop, sRet, sRetN, sIf, sPar, sAug, sAugL, sNil, xName, xC, xBin, xBinN, xBinT, xCall, xCallN, xNew, xTup, xLst, xLstRg, xTupRg, xRg1, xRg2, xTru, xNot, xAndT, xOrT, xAnd, xOr, xNotV, rdB, xIf, xNeg, xMet, xMet0, xMut, xMut0, aNil, aCons, vals, rdAll, DL.R.rd, oNone, oSome, xSlL, xSlT, gSet, gsNil, gsCons, gTupD, gLstD, gSubL, freeAt, isOw, kYes, List.getElem?_cons_zero, List.getElem?_cons_succ, List.set_cons_zero, List.set_cons_succ, Option.bind_some, Option.bind_none, if_true, if_false, Bool.false_eq_true, reduceIte, List.length_cons, List.length_nil, Bool.and_true, Bool.true_and, Bool.and_self, Bool.not_true, Bool.not_false, false_and, and_false, true_and, and_true, Option.isSome_some, xCallV, xCallVN, xCallB, xCh2, xCh3, isB, xDct1, xMake, sFldD, sPutD, List.map_cons, List.map_nil, nD, at_edges, i1, pD, i3, g2]
        simp only [sSeq, sSet, sSetN, sAsg, sDrop, sRet, sRetN, sIf, sPar, sAug, sAugL, sNil, xName, xC, xBin, xBinN, xBinT, xCall, xCallN, xNew, xTup, xLst, xLstRg, xTupRg, xRg1, xRg2, xTru, xNot, xAndT, xOrT, xAnd, xOr, xNotV, rdB, xIf, xNeg, xMet, xMet0, xMut, xMut0, aNil, aCons, vals, rdAll, DL.R.rd, oNone, oSome, xSlL, xSlT, gSet, gsNil, gsCons, gTupD, gLstD, gSubL, freeAt, isOw, kYes, List.getElem?_cons_zero, List.getElem?_cons_succ, List.set_cons_zero, List.set_cons_succ, Option.bind_some, Option.bind_none, if_true, if_false, Bool.false_eq_true, reduceIte, List.length_cons, List.length_nil, Bool.and_true, Bool.true_and, Bool.and_self, Bool.not_true, Bool.not_false, false_and, and_false, true_and, and_true, Option.isSome_some, xCallV, xCallVN, xCallB, xCh2, xCh3, isB, xDct1, xMake, sFldD, sPutD, List.map_cons, List.map_nil, wps, wp1, List.foldl_cons, List.foldl_nil, hks, reduceCtorEq]
      | true =>
        cases b2 with
        | false =>
          simp only [sSeq, sSet, sSetN, sAsg, sDrop, sRet, sRetN, sIf, sPar, sAug, sAugL, sNil, xName, xC, xBin, xBinN, xBinT, xCall, xCallN, xNew, xTup, xLst, xLstRg, xTupRg, xRg1, xRg2, xTru, xNot, xAndT, xOrT, xAnd, xOr, xNotV, rdB, xIf, xNeg, xMet, xMet0, xMut, xMut0, aNil, aCons, vals, rdAll, DL.R.rd, oNone, oSome, xSlL, xSlT, gSet, gsNil, gsCons, gTupD, gLstD, gSubL, freeAt, isOw, kYes, List.getElem?_cons_zero, List.getElem?_cons_succ, List.set_cons_zero, List.set_cons_succ, Option.bind_some, Option.bind_none, if_true, if_false, Bool.false_eq_true, reduceIte, List.length_cons, List.length_nil, Bool.and_true, Bool.true_and, Bool.and_self, Bool.not_true, Bool.not_false, false_and, and_false, true_and, and_true, Option.isSome_some, xCallV, xCallVN, xCallB, xCh2, xCh3, isB, xDct1, xMake, sFldD, sPutD, List.map_cons, List.map_nil, nD, at_edges, i1, pD, i3, g2, i2, dPlus_int, dSub_int, dEq_int, e2]
          simp only [sSeq, sSet, sSetN, sAsg, sDrop, sRet, sRetN, sIf, sPar, sAug, sAugL, sNil, xName, xC, xBin, xBinN, xBinT, xCall, xCallN, xNew, xTup, xLst, xLstRg, xTupRg, xRg1, xRg2, xTru, xNot, xAndT, xOrT, xAnd, xOr, xNotV, rdB, xIf, xNeg, xMet, xMet0, xMut, xMut0, aNil, aCons, vals, rdAll, DL.R.rd, oNone, oSome, xSlL, xSlT, gSet, gsNil, gsCons, gTupD, gLstD, gSubL, freeAt, isOw, kYes, List.getElem?_cons_zero, List.getElem?_cons_succ, List.set_cons_zero, List.set_cons_succ, Option.bind_some, Option.bind_none, if_true, if_false, Bool.false_eq_true, reduceIte, List.length_cons, List.length_nil, Bool.and_true, Bool.true_and, Bool.and_self, Bool.not_true, Bool.not_false, false_and, and_false, true_and, and_true, Option.isSome_some, xCallV, xCallVN, xCallB, xCh2, xCh3, isB, xDct1, xMake, sFldD, sPutD, List.map_cons, List.map_nil, wps, wp1, List.foldl_cons, List.foldl_nil, hks, reduceCtorEq]
        | true =>
          cases b3 with
          | true =>
            simp only [sSeq, sSet, sSetN, sAsg, sDrop, sRet, sRetN, sIf, sPar, sAug, sAugL, sNil, xName, xC, xBin, xBinN, xBinT, xCall, xCallN, xNew, xTup, xLst, xLstRg, xTupRg, xRg1, xRg2, xTru, xNot, xAndT, xOrT, xAnd, xOr, xNotV, rdB, xIf, xNeg, xMet, xMet0, xMut, xMut0, aNil, aCons, vals, rdAll, DL.R.rd, oNone, oSome, xSlL, xSlT, gSet, gsNil, gsCons, gTupD, gLstD, gSubL, freeAt, isOw, kYes, List.getElem?_cons_zero, List.getElem?_cons_succ, List.set_cons_zero, List.set_cons_succ, Option.bind_some, Option.bind_none, if_true, if_false, Bool.false_eq_true, reduceIte, List.length_cons, List.length_nil, Bool.and_true, Bool.true_and, Bool.and_self, Bool.not_true, Bool.not_false, false_and, and_false, true_and, and_true, Option.isSome_some, xCallV, xCallVN, xCallB, xCh2, xCh3, isB, xDct1, xMake, sFldD, sPutD, List.map_cons, List.map_nil, nD, at_edges, i1, pD, i3, g2, i2, dPlus_int, dSub_int, dEq_int, e2, i4]
            simp only [sSeq, sSet, sSetN, sAsg, sDrop, sRet, sRetN, sIf, sPar, sAug, sAugL, sNil, xName, xC, xBin, xBinN, xBinT, xCall, xCallN, xNew, xTup, xLst, xLstRg, xTupRg, xRg1, xRg2, xTru, xNot, xAndT, xOrT, xAnd, xOr, xNotV, rdB, xIf, xNeg, xMet, xMet0, xMut, xMut0, aNil, aCons, vals, rdAll, DL.R.rd, oNone, oSome, xSlL, xSlT, gSet, gsNil, gsCons, gTupD, gLstD, gSubL, freeAt, isOw, kYes, List.getElem?_cons_zero, List.getElem?_cons_succ, List.set_cons_zero, List.set_cons_succ, Option.bind_some, Option.bind_none, if_true, if_false, Bool.false_eq_true, reduceIte, List.length_cons, List.length_nil, Bool.and_true, Bool.true_and, Bool.and_self, Bool.not_true, Bool.not_false, false_and, and_false, true_and, and_true, Option.isSome_some, xCallV, xCallVN, xCallB, xCh2, xCh3, isB, xDct1, xMake, sFldD, sPutD, List.map_cons, List.map_nil, wps, wp1, List.foldl_cons, List.foldl_nil, hks, reduceCtorEq]
          | false =>
            have pt := pt (of_decide_eq_false e3)
            have da : dcK wy (Q ++ [⟨h k, z.v, k, z.d + 1⟩]) = dcK wy Q ++ [(.inl (h k : Int), .tup [.int z.v, .int k])] := by simp [dcK, wy]
            simp only [sSeq, sSet, sSetN, sAsg, sDrop, sRet, sRetN, sIf, sPar, sAug, sAugL, sNil, xName, xC, xBin, xBinN, xBinT, xCall, xCallN, xNew, xTup, xLst, xLstRg, xTupRg, xRg1, xRg2, xTru, xNot, xAndT, xOrT, xAnd, xOr, xNotV, rdB, xIf, xNeg, xMet, xMet0, xMut, xMut0, aNil, aCons, vals, rdAll, DL.R.rd, oNone, oSome, xSlL, xSlT, gSet, gsNil, gsCons, gTupD, gLstD, gSubL, freeAt, isOw, kYes, List.getElem?_cons_zero, List.getElem?_cons_succ, List.set_cons_zero, List.set_cons_succ, Option.bind_some, Option.bind_none, if_true, if_false, Bool.false_eq_true, reduceIte, List.length_cons, List.length_nil, Bool.and_true, Bool.true_and, Bool.and_self, Bool.not_true, Bool.not_false, false_and, and_false, true_and, and_true, Option.isSome_some, xCallV, xCallVN, xCallB, xCh2, xCh3, isB, xDct1, xMake, sFldD, sPutD, List.map_cons, List.map_nil, nD, at_edges, i1, pD, i3, g2, i2, dPlus_int, dSub_int, dEq_int, e2, i4, gApp, g3]
            unfold dcQ at *
            simp only [sSeq, sSet, sSetN, sAsg, sDrop, sRet, sRetN, sIf, sPar, sAug, sAugL, sNil, xName, xC, xBin, xBinN, xBinT, xCall, xCallN, xNew, xTup, xLst, xLstRg, xTupRg, xRg1, xRg2, xTru, xNot, xAndT, xOrT, xAnd, xOr, xNotV, rdB, xIf, xNeg, xMet, xMet0, xMut, xMut0, aNil, aCons, vals, rdAll, DL.R.rd, oNone, oSome, xSlL, xSlT, gSet, gsNil, gsCons, gTupD, gLstD, gSubL, freeAt, isOw, kYes, List.getElem?_cons_zero, List.getElem?_cons_succ, List.set_cons_zero, List.set_cons_succ, Option.bind_some, Option.bind_none, if_true, if_false, Bool.false_eq_true, reduceIte, List.length_cons, List.length_nil, Bool.and_true, Bool.true_and, Bool.and_self, Bool.not_true, Bool.not_false, false_and, and_false, true_and, and_true, Option.isSome_some, xCallV, xCallVN, xCallB, xCh2, xCh3, isB, xDct1, xMake, sFldD, sPutD, List.map_cons, List.map_nil, keyD, pt, g4, g3, i2, gApp, reduceCtorEq]
            simp only [sSeq, sSet, sSetN, sAsg, sDrop, sRet, sRetN, sIf, sPar, sAug, sAugL, sNil, xName, xC, xBin, xBinN, xBinT, xCall, xCallN, xNew, xTup, xLst, xLstRg, xTupRg, xRg1, xRg2, xTru, xNot, xAndT, xOrT, xAnd, xOr, xNotV, rdB, xIf, xNeg, xMet, xMet0, xMut, xMut0, aNil, aCons, vals, rdAll, DL.R.rd, oNone, oSome, xSlL, xSlT, gSet, gsNil, gsCons, gTupD, gLstD, gSubL, freeAt, isOw, kYes, List.getElem?_cons_zero, List.getElem?_cons_succ, List.set_cons_zero, List.set_cons_succ, Option.bind_some, Option.bind_none, if_true, if_false, Bool.false_eq_true, reduceIte, List.length_cons, List.length_nil, Bool.and_true, Bool.true_and, Bool.and_self, Bool.not_true, Bool.not_false, false_and, and_false, true_and, and_true, Option.isSome_some, xCallV, xCallVN, xCallB, xCh2, xCh3, isB, xDct1, xMake, sFldD, sPutD, List.map_cons, List.map_nil, wps, wp1, List.foldl_cons, List.foldl_nil, ka, da, reduceCtorEq]
    rw [key _ _ _ rfl rfl rfl, bStep_bools H hk]
theorem LT2 (G : GrOk n m e) (H : HdOk m e h) (hn : n ≤ 1000) (hm : m ≤ 1000) {wr : List D → D} (hw : wr = .lst ∨ wr = .tup) (f0 : D) (last : Nat) : ∀ (f : Nat) (Q : List En) (i : Nat) (s7 : Slot), Gd n m (tl e h) h first Q → i ≤ Q.length → n < i + f → Fr s7 →
    ∃ ls s7', Fr s7' ∧ sWhile [6, 8, 9] K_turned_path_1 B_turned_path_2 f (RT n m e (wr (hdD m h)) f0 (.int last) Q (((kys Q).drop i).map nD) .un s7 .un) = some (.nx (RT n m e (wr (hdD m h)) f0 (.int last) (tRun (tl e h) h m last f Q i) ls .un s7' .un))
  | 0, Q, i, s7, g, hi, hf, _ => by have := g.len; omega
  | f + 1, Q, i, s7, g, hi, hf, f7 => by
    have hl : dLen [.lst (((kys Q).drop i).map nD)] = some (.int (Q.length - i : Nat)) := by simp [dLen, kys]
    have gl := g.len
    have hi4 := notIn_Q wy Q last
    cases hz : Q[i]? with
    | none =>
      have h1 : Q.length ≤ i := List.getElem?_eq_none_iff.mp hz
      have e1 : tRun (tl e h) h m last (f + 1) Q i = Q := by rw [tRun]; simp only [hz]
      rw [e1]
      refine ⟨((kys Q).drop i).map nD, s7, f7, while_end f ?_⟩
      have d1 : decide ((0 : Int) < (Q.length - i : Nat)) = false := decide_eq_false (by omega)
      unfold K_turned_path_1 RT
      simp only [sSeq, sSet, sSetN, sAsg, sDrop, sRet, sRetN, sIf, sPar, sAug, sAugL, sNil, xName, xC, xBin, xBinN, xBinT, xCall, xCallN, xNew, xTup, xLst, xLstRg, xTupRg, xRg1, xRg2, xTru, xNot, xAndT, xOrT, xAnd, xOr, xNotV, rdB, xIf, xNeg, xMet, xMet0, xMut, xMut0, aNil, aCons, vals, rdAll, DL.R.rd, oNone, oSome, xSlL, xSlT, gSet, gsNil, gsCons, gTupD, gLstD, gSubL, freeAt, isOw, kYes, List.getElem?_cons_zero, List.getElem?_cons_succ, List.set_cons_zero, List.set_cons_succ, Option.bind_some, Option.bind_none, if_true, if_false, Bool.false_eq_true, reduceIte, List.length_cons, List.length_nil, Bool.and_true, Bool.true_and, Bool.and_self, Bool.not_true, Bool.not_false, false_and, and_false, true_and, and_true, Option.isSome_some, xCallV, xCallVN, xCallB, xCh2, xCh3, isB, xDct1, xMake, sFldD, sPutD, List.map_cons, List.map_nil, hl, dGt_int, d1]
    | some z =>
      have h1 := at_lt hz
      have d1 : decide ((0 : Int) < (Q.length - i : Nat)) = true := decide_eq_true (by omega)
      by_cases hlast : last ∈ kys Q
      · have e1 : tRun (tl e h) h m last (f + 1) Q i = Q := by rw [tRun]; simp only [hz, if_pos hlast]
        rw [e1]
        refine ⟨((kys Q).drop i).map nD, s7, f7, while_end f ?_⟩
        rw [decide_eq_true hlast] at hi4
        unfold K_turned_path_1 RT
        simp only [sSeq, sSet, sSetN, sAsg, sDrop, sRet, sRetN, sIf, sPar, sAug, sAugL, sNil, xName, xC, xBin, xBinN, xBinT, xCall, xCallN, xNew, xTup, xLst, xLstRg, xTupRg, xRg1, xRg2, xTru, xNot, xAndT, xOrT, xAnd, xOr, xNotV, rdB, xIf, xNeg, xMet, xMet0, xMut, xMut0, aNil, aCons, vals, rdAll, DL.R.rd, oNone, oSome, xSlL, xSlT, gSet, gsNil, gsCons, gTupD, gLstD, gSubL, freeAt, isOw, kYes, List.getElem?_cons_zero, List.getElem?_cons_succ, List.set_cons_zero, List.set_cons_succ, Option.bind_some, Option.bind_none, if_true, if_false, Bool.false_eq_true, reduceIte, List.length_cons, List.length_nil, Bool.and_true, Bool.true_and, Bool.and_self, Bool.not_true, Bool.not_false, false_and, and_false, true_and, and_true, Option.isSome_some, xCallV, xCallVN, xCallB, xCh2, xCh3, isB, xDct1, xMake, sFldD, sPutD, List.map_cons, List.map_nil, hl, dGt_int, d1, hi4]
      · have e1 : tRun (tl e h) h m last (f + 1) Q i = tRun (tl e h) h m last f (bTurn (tl e h) h m Q z) (i + 1) := by rw [tRun]; simp only [hz, if_neg hlast]
        rw [decide_eq_false hlast] at hi4
        have hh : ∀ k, k < m → h k < n := fun k hk => (tl_lt G H hk).2
        obtain ⟨Z, er⟩ := foldl_pre (t := tl e h) (h := h) z (List.range m) Q
        have er : bTurn (tl e h) h m Q z = Q ++ Z := er
        have g' := g.turn hh (List.mem_of_getElem? hz)
        obtain ⟨s7', f7', x1⟩ := LT1 G H hn hm hw f0 (.int last) g hz f7
        obtain ⟨ls, s8, f8, x2⟩ := LT2 G H hn hm hw f0 last f (bTurn (tl e h) h m Q z) (i + 1) s7' g' (by rw [er, List.length_append]; omega) (by omega) f7'
        refine ⟨ls, s8, f8, ?_⟩
        rw [e1, ← x2]
        have hdrop : ((kys Q).drop i).map nD = .int z.v :: ((kys Q).drop (i + 1)).map nD := by
          have hk : i < (kys Q).length := by simp [kys]; exact h1
          have : (kys Q)[i] = z.v := by
            have a : (kys Q)[i]? = some z.v := by
              show (Q.map En.v)[i]? = _
              rw [List.getElem?_map, hz]
              rfl
            rw [List.getElem?_eq_getElem hk] at a
            exact Option.some.inj a
          rw [List.drop_eq_getElem_cons hk, this]
          rfl
        rw [hdrop] at hl ⊢
        rw [while_go (ρ1 := RT n m e (wr (hdD m h)) f0 (.int last) Q (.int z.v :: ((kys Q).drop (i + 1)).map nD) .un s7 .un) (ρ2 := RT n m e (wr (hdD m h)) f0 (.int last) (bTurn (tl e h) h m Q z) (((kys (bTurn (tl e h) h m Q z)).drop (i + 1)).map nD) (.imm (.int z.v)) s7' .un) f ?_ ?_]
        · unfold RT
          simp only [sSeq, sSet, sSetN, sAsg, sDrop, sRet, sRetN, sIf, sPar, sAug, sAugL, sNil, xName, xC, xBin, xBinN, xBinT, xCall, xCallN, xNew, xTup, xLst, xLstRg, xTupRg, xRg1, xRg2, xTru, xNot, xAndT, xOrT, xAnd, xOr, xNotV, rdB, xIf, xNeg, xMet, xMet0, xMut, xMut0, aNil, aCons, vals, rdAll, DL.R.rd, oNone, oSome, xSlL, xSlT, gSet, gsNil, gsCons, gTupD, gLstD, gSubL, freeAt, isOw, kYes, List.getElem?_cons_zero, List.getElem?_cons_succ, List.set_cons_zero, List.set_cons_succ, Option.bind_some, Option.bind_none, if_true, if_false, Bool.false_eq_true, reduceIte, List.length_cons, List.length_nil, Bool.and_true, Bool.true_and, Bool.and_self, Bool.not_true, Bool.not_false, false_and, and_false, true_and, and_true, Option.isSome_some, xCallV, xCallVN, xCallB, xCh2, xCh3, isB, xDct1, xMake, sFldD, sPutD, List.map_cons, List.map_nil, wps, wp1, List.foldl_cons, List.foldl_nil]
        · unfold K_turned_path_1 RT
          simp only [sSeq, sSet, sSetN, sAsg, sDrop, sRet, sRetN, sIf, sPar, sAug, sAugL, sNil, xName, xC, xBin, xBinN, xBinT, xCall, xCallN, xNew, xTup, xLst, xLstRg, xTupRg, xRg1, xRg2, xTru, xNot, xAndT, xOrT, xAnd, xOr, xNotV, rdB, xIf, xNeg, xMet, xMet0, xMut, xMut0, aNil, aCons, vals, rdAll, DL.R.rd, oNone, oSome, xSlL, xSlT, gSet, gsNil, gsCons, gTupD, gLstD, gSubL, freeAt, isOw, kYes, List.getElem?_cons_zero, List.getElem?_cons_succ, List.set_cons_zero, List.set_cons_succ, Option.bind_some, Option.bind_none, if_true, if_false, Bool.false_eq_true, reduceIte, List.length_cons, List.length_nil, Bool.and_true, Bool.true_and, Bool.and_self, Bool.not_true, Bool.not_false, false_and, and_false, true_and, and_true, Option.isSome_some, xCallV, xCallVN, xCallB, xCh2, xCh3, isB, xDct1, xMake, sFldD, sPutD, List.map_cons, List.map_nil, hl, dGt_int, d1, hi4]
        · unfold RT at x1 ⊢
          unfold B_turned_path_2
          simp only [sSeq, sSet, sSetN, sAsg, sDrop, sRet, sRetN, sIf, sPar, sAug, sAugL, sNil, xName, xC, xBin, xBinN, xBinT, xCall, xCallN, xNew, xTup, xLst, xLstRg, xTupRg, xRg1, xRg2, xTru, xNot, xAndT, xOrT, xAnd, xOr, xNotV, rdB, xIf, xNeg, xMet, xMet0, xMut, xMut0, aNil, aCons, vals, rdAll, DL.R.rd, oNone, oSome, xSlL, xSlT, gSet, gsNil, gsCons, gTupD, gLstD, gSubL, freeAt, isOw, kYes, List.getElem?_cons_zero, List.getElem?_cons_succ, List.set_cons_zero, List.set_cons_succ, Option.bind_some, Option.bind_none, if_true, if_false, Bool.false_eq_true, reduceIte, List.length_cons, List.length_nil, Bool.and_true, Bool.true_and, Bool.and_self, Bool.not_true, Bool.not_false, false_and, and_false, true_and, and_true, Option.isSome_some, xCallV, xCallVN, xCallB, xCh2, xCh3, isB, xDct1, xMake, sFldD, sPutD, List.map_cons, List.map_nil, pop0, x1]
theorem LT3 (G : GrOk n m e) (H : HdOk m e h) (hn : n ≤ 1000) (hm : m ≤ 1000) {wr : List D → D} (hw : wr = .lst ∨ wr = .tup) (f0 : D) {Q : List En} (g : Gd n m (tl e h) h first Q) (ls : List D) (last Dp : Nat) : ∀ (d : Nat) (x : En) (fs : Nat → Nat) (s7 : Slot) (f : Nat), x ∈ Q → x.d = d → d < f → Fr s7 → PathInv n m e h Q last Dp x fs →
    ∃ fs' s7' , Turned n m e h first last Dp fs' ∧ sWhile [7] K_turned_path_2 B_turned_path_3 f (RT n m e (wr (hdD m h)) f0 (.int x.v) Q ls .un s7 (.ow false (.lst (hdD m fs)))) = some (.nx (RT n m e (wr (hdD m h)) f0 (.int first) Q ls .un s7' (.ow false (.lst (hdD m fs')))))
  | d, x, fs, s7, 0, hx, hd, hf, f7, I => by omega
  | 0, x, fs, s7, f + 1, hx, hd, hf, f7, I => by
    have hv : x.v = first := by
      rcases g.par x hx with a | ⟨_, _, _, y, _, _, a⟩
      · rw [a]; rfl
      · omega
    obtain ⟨_, d', hd', T⟩ := I
    have : d' = Dp := by omega
    subst this
    rw [hv] at T
    refine ⟨fs, s7, T, ?_⟩
    have gx : dGetK (dcQ wy Q) (.int x.v) = some .non := by
      rw [get_Q g wy hx]
      unfold wy
      rw [if_pos hd]
    rw [hv] at gx
    rw [hv]
    refine while_end f ?_
    have e1 : dIsNot .non .non = some (.bl false) := rfl
    unfold K_turned_path_2 RT
    simp only [sSeq, sSet, sSetN, sAsg, sDrop, sRet, sRetN, sIf, sPar, sAug, sAugL, sNil, xName, xC, xBin, xBinN, xBinT, xCall, xCallN, xNew, xTup, xLst, xLstRg, xTupRg, xRg1, xRg2, xTru, xNot, xAndT, xOrT, xAnd, xOr, xNotV, rdB, xIf, xNeg, xMet, xMet0, xMut, xMut0, aNil, aCons, vals, rdAll, DL.R.rd, oNone, oSome, xSlL, xSlT, gSet, gsNil, gsCons, gTupD, gLstD, gSubL, freeAt, isOw, kYes, List.getElem?_cons_zero, List.getElem?_cons_succ, List.set_cons_zero, List.set_cons_succ, Option.bind_some, Option.bind_none, if_true, if_false, Bool.false_eq_true, reduceIte, List.length_cons, List.length_nil, Bool.and_true, Bool.true_and, Bool.and_self, Bool.not_true, Bool.not_false, false_and, and_false, true_and, and_true, Option.isSome_some, xCallV, xCallVN, xCallB, xCh2, xCh3, isB, xDct1, xMake, sFldD, sPutD, List.map_cons, List.map_nil, gx, e1]
  | d + 1, x, fs, s7, f + 1, hx, hd, hf, f7, I => by
    obtain ⟨y, hy, y1, y2, y3, I'⟩ := path_step G H g hx (by omega) I
    obtain ⟨fs', s7', T, x1⟩ := LT3 G H hn hm hw f0 g ls last Dp d y (fun j => if j = x.k then x.p else fs j) .un f hy (by omega) (by omega) (.inl rfl) I'
    refine ⟨fs', s7', T, ?_⟩
    rw [← x1]
    have gx : dGetK (dcQ wy Q) (.int x.v) = some (.tup [.int x.p, .int x.k]) := by
      rw [get_Q g wy hx]
      unfold wy
      rw [if_neg (by omega)]
    have e1 : dIsNot (.tup [.int x.p, .int x.k]) .non = some (.bl true) := rfl
    have e2 : ixN (hdD m fs).length (x.k : Int) = some x.k := ixN_nat (by rw [hdD, tn_len]; exact y3)
    have e3 : (hdD m fs).set x.k (.int x.p) = hdD m fun j => if j = x.k then x.p else fs j := by
      unfold hdD
      rw [tn_set]
      refine tn_congr fun j _ => ?_
      by_cases c : j = x.k
      · simp only [if_pos c]
      · simp only [if_neg c]
    have e4 := tn_get (fun k => D.int (fs k)) y3
    rw [show tn m (fun k => D.int (fs k)) = hdD m fs from rfl] at e4
    rw [while_go (ρ1 := RT n m e (wr (hdD m h)) f0 (.int x.v) Q ls .un s7 (.ow false (.lst (hdD m fs)))) (ρ2 := RT n m e (wr (hdD m h)) f0 (.int y.v) Q ls .un (.imm (.int x.k)) (.ow false (.lst (hdD m fun j => if j = x.k then x.p else fs j)))) f ?_ ?_]
    · unfold RT
      simp only [sSeq, sSet, sSetN, sAsg, sDrop, sRet, sRetN, sIf, sPar, sAug, sAugL, sNil, xName, xC, xBin, xBinN, xBinT, xCall, xCallN, xNew, xTup, xLst, xLstRg, xTupRg, xRg1, xRg2, xTru, xNot, xAndT, xOrT, xAnd, xOr, xNotV, rdB, xIf, xNeg, xMet, xMet0, xMut, xMut0, aNil, aCons, vals, rdAll, DL.R.rd, oNone, oSome, xSlL, xSlT, gSet, gsNil, gsCons, gTupD, gLstD, gSubL, freeAt, isOw, kYes, List.getElem?_cons_zero, List.getElem?_cons_succ, List.set_cons_zero, List.set_cons_succ, Option.bind_some, Option.bind_none, if_true, if_false, Bool.false_eq_true, reduceIte, List.length_cons, List.length_nil, Bool.and_true, Bool.true_and, Bool.and_self, Bool.not_true, Bool.not_false, false_and, and_false, true_and, and_true, Option.isSome_some, xCallV, xCallVN, xCallB, xCh2, xCh3, isB, xDct1, xMake, sFldD, sPutD, List.map_cons, List.map_nil, wps, wp1, List.foldl_cons, List.foldl_nil]
    · unfold K_turned_path_2 RT
      rcases f7 with rfl | ⟨d, rfl⟩ <;> simp only [sSeq, sSet, sSetN, sAsg, sDrop, sRet, sRetN, sIf, sPar, sAug, sAugL, sNil, xName, xC, xBin, xBinN, xBinT, xCall, xCallN, xNew, xTup, xLst, xLstRg, xTupRg, xRg1, xRg2, xTru, xNot, xAndT, xOrT, xAnd, xOr, xNotV, rdB, xIf, xNeg, xMet, xMet0, xMut, xMut0, aNil, aCons, vals, rdAll, DL.R.rd, oNone, oSome, xSlL, xSlT, gSet, gsNil, gsCons, gTupD, gLstD, gSubL, freeAt, isOw, kYes, List.getElem?_cons_zero, List.getElem?_cons_succ, List.set_cons_zero, List.set_cons_succ, Option.bind_some, Option.bind_none, if_true, if_false, Bool.false_eq_true, reduceIte, List.length_cons, List.length_nil, Bool.and_true, Bool.true_and, Bool.and_self, Bool.not_true, Bool.not_false, false_and, and_false, true_and, and_true, Option.isSome_some, xCallV, xCallVN, xCallB, xCh2, xCh3, isB, xDct1, xMake, sFldD, sPutD, List.map_cons, List.map_nil, gx, e1]
    · rw [y1]
      unfold B_turned_path_3 RT
      generalize hdD m fs = xs at e2 e3 e4
      rcases f7 with rfl | ⟨d, rfl⟩ <;> simp only [sSeq, sSet, sSetN, sAsg, sDrop, sRet, sRetN, sIf, sPar, sAug, sAugL, sNil, xName, xC, xBin, xBinN, xBinT, xCall, xCallN, xNew, xTup, xLst, xLstRg, xTupRg, xRg1, xRg2, xTru, xNot, xAndT, xOrT, xAnd, xOr, xNotV, rdB, xIf, xNeg, xMet, xMet0, xMut, xMut0, aNil, aCons, vals, rdAll, DL.R.rd, oNone, oSome, xSlL, xSlT, gSet, gsNil, gsCons, gTupD, gLstD, gSubL, freeAt, isOw, kYes, List.getElem?_cons_zero, List.getElem?_cons_succ, List.set_cons_zero, List.set_cons_succ, Option.bind_some, Option.bind_none, if_true, if_false, Bool.false_eq_true, reduceIte, List.length_cons, List.length_nil, Bool.and_true, Bool.true_and, Bool.and_self, Bool.not_true, Bool.not_false, false_and, and_false, true_and, and_true, Option.isSome_some, xCallV, xCallVN, xCallB, xCh2, xCh3, isB, xDct1, xMake, sFldD, sPutD, List.map_cons, List.map_nil, gx, e2, e4, e3]
theorem turned_eq (G : GrOk n m e) (H : HdOk m e h) (hn : n < 40) (hm : m ≤ 1000) {wr : List D → D} (hw : wr = .lst ∨ wr = .tup) (hf : first < n) (last : Nat) :
    (last ∉ kys (bRun (tl e h) h m 40 [root first] 0) ∧ m_turned_path [.imm (gO n m e), .imm (wr (hdD m h)), .imm (.int first), .imm (.int last)] = some (.non, [.imm (gO n m e), .imm (wr (hdD m h)), .imm (.int first), .imm (.int last)])) ∨
    ∃ x ∈ bRun (tl e h) h m 40 [root first] 0, x.v = last ∧ ∃ fs, Turned n m e h first last x.d fs ∧ m_turned_path [.imm (gO n m e), .imm (wr (hdD m h)), .imm (.int first), .imm (.int last)] = some (.lst (hdD m fs), [.imm (gO n m e), .imm (wr (hdD m h)), .imm (.int first), .imm (.int last)]) := by
  have hh : ∀ k, k < m → h k < n := fun k hk => (tl_lt G H hk).2
  have cl0 : Cl m (tl e h) h 0 [root first] := fun j z hj => by omega
  obtain ⟨g, R0, r1, r2⟩ := tRun_ok (t := tl e h) (h := h) hh last 40 [root first] 0 (.one hf) cl0 (by simp) (by omega)
  obtain ⟨ls, s7, f7, x1⟩ := LT2 (first := first) G H (by omega) hm hw (.int first) last 40 [root first] 0 .un (.one hf) (by simp) (by omega) (.inl rfl)
  have hr : ((kys [root first]).drop 0).map nD = [.int first] := rfl
  have hr2 : dcQ wy [root first] = .dct [(.inl first, .non)] := rfl
  generalize tRun (tl e h) h m last 40 [root first] 0 = Q at g r1 r2 x1
  have g1 : Grd (0 + 1 ≤ sizeLine) = True := grdN (by omega)
  have i4 := notIn_Q wy Q last
  have hl : dListOf [wr (hdD m h)] = some (.lst (hdD m h)) := by rcases hw with rfl | rfl <;> rfl
  unfold RT at x1
  rw [hr, hr2] at x1
  by_cases hlast : last ∈ kys Q
  · right
    obtain ⟨x, hx, ev⟩ := kys_mem.mp hlast
    obtain ⟨j, hj⟩ := List.getElem?_of_mem hx
    have hd := g.dep j x hj
    have hj2 := at_lt hj
    have gl := g.len
    obtain ⟨fs, s8, T, x2⟩ := LT3 G H (by omega) hm hw (.int first) g ls x.v x.d x.d x h s7 40 hx rfl (by omega) f7 (path_start H Q x)
    rw [ev] at T x2
    refine ⟨x, by rw [r1]; exact List.mem_append_left _ hx, ev, fs, T, ?_⟩
    rw [decide_eq_true hlast] at i4
    refine fnD_rt (b := true) (ρ' := [.imm (gO n m e), .imm (wr (hdD m h)), .imm (.int first), .imm (.int first), .ow false (dcQ wy Q), .ow false (.lst ls), .un, s8, .un, .un, .un]) ?_ rfl (.inl rfl) rfl
    show b_turned_path [.imm (gO n m e), .imm (wr (hdD m h)), .imm (.int first), .imm (.int last), .un, .un, .un, .un, .un, .un, .un] = _
    unfold b_turned_path L_turned_path_2 L_turned_path_3
    unfold RT at x2
    simp only [sSeq, sSet, sSetN, sAsg, sDrop, sRet, sRetN, sIf, sPar, sAug, sAugL, sNil, xName, xC, xBin, xBinN, xBinT, xCall, xCallN, xNew, xTup, xLst, xLstRg, xTupRg, xRg1, xRg2, xTru, xNot, xAndT, xOrT, xAnd, xOr, xNotV, rdB, xIf, xNeg, xMet, xMet0, xMut, xMut0, aNil, aCons, vals, rdAll, DL.R.rd, oNone, oSome, xSlL, xSlT, gSet, gsNil, gsCons, gTupD, gLstD, gSubL, freeAt, isOw, kYes, List.getElem?_cons_zero, List.getElem?_cons_succ, List.set_cons_zero, List.set_cons_succ, Option.bind_some, Option.bind_none, if_true, if_false, Bool.false_eq_true, reduceIte, List.length_cons, List.length_nil, Bool.and_true, Bool.true_and, Bool.and_self, Bool.not_true, Bool.not_false, false_and, and_false, true_and, and_true, Option.isSome_some, xCallV, xCallVN, xCallB, xCh2, xCh3, isB, xDct1, xMake, sFldD, sPutD, List.map_cons, List.map_nil, keyD, g1, x1, i4, hl, x2]
  · left
    have := r2 hlast
    subst this
    rw [List.append_nil] at r1
    refine ⟨by rw [r1]; exact hlast, ?_⟩
    rw [decide_eq_false hlast] at i4
    refine fnD_rt (b := false) (ρ' := [.imm (gO n m e), .imm (wr (hdD m h)), .imm (.int first), .imm (.int last), .ow false (dcQ wy Q), .ow false (.lst ls), .un, s7, .un, .un, .un]) ?_ rfl (.inl rfl) rfl
    show b_turned_path [.imm (gO n m e), .imm (wr (hdD m h)), .imm (.int first), .imm (.int last), .un, .un, .un, .un, .un, .un, .un] = _
    unfold b_turned_path L_turned_path_2 L_turned_path_3
    simp only [sSeq, sSet, sSetN, sAsg, sDrop, sRet, sRetN, sIf, sPar, sAug, sAugL, sNil, xName, xC, xBin, xBinN, xBinT, xCall, xCallN, xNew, xTup, xLst, xLstRg, xTupRg, xRg1, xRg2, xTru, xNot, xAndT, xOrT, xAnd, xOr, xNotV, rdB, xIf, xNeg, xMet, xMet0, xMut, xMut0, aNil, aCons, vals, rdAll, DL.R.rd, oNone, oSome, xSlL, xSlT, gSet, gsNil, gsCons, gTupD, gLstD, gSubL, freeAt, isOw, kYes, List.getElem?_cons_zero, List.getElem?_cons_succ, List.set_cons_zero, List.set_cons_succ, Option.bind_some, Option.bind_none, if_true, if_false, Bool.false_eq_true, reduceIte, List.length_cons, List.length_nil, Bool.and_true, Bool.true_and, Bool.and_self, Bool.not_true, Bool.not_false, false_and, and_false, true_and, and_true, Option.isSome_some, xCallV, xCallVN, xCallB, xCh2, xCh3, isB, xDct1, xMake, sFldD, sPutD, List.map_cons, List.map_nil, keyD, g1, x1, i4, hl]
end
end K59

set_option maxRecDepth 100000
namespace K59
open PySem PySem.Spec PyProof.Rows L2 DL
/-! ### directed -/
def rwD (n : Nat) (r : Nat → Int) : D := .tup (tn n fun v => .int (r v))
theorem sumT_eq (n : Nat) (r : Nat → Int) : dSumA [rwD n r] = some (.int (sumL (List.range n) r)) := by
  unfold dSumA orC rwD
  have h1 : dSum [.tup (tn n fun v => .int (r v))] = none := rfl
  rw [h1]
  unfold dSumT
  simp only [tn_ints, Option.bind_some, sumL]
theorem sort_nats (K0 : List Nat) : ∃ K : List Nat, K.Perm K0 ∧ K.Pairwise (· ≤ ·) ∧ dSort [.lst (K0.map nD)] = some (.lst (K.map nD)) := by
  have hp := sortI_perm (K0.map fun x : Nat => (x : Int))
  have hs := sortI_sorted (K0.map fun x : Nat => (x : Int))
  have hd : dSort [.lst (K0.map nD)] = some (.lst ((sortI (K0.map fun x : Nat => (x : Int))).map .int)) := by
    show (sortD (K0.map nD)).bind _ = _
    rw [nats_ints, sortD_ints]
    rfl
  generalize sortI (K0.map fun x : Nat => (x : Int)) = S at hp hs hd
  have pos : ∀ x ∈ S, ((x.toNat : Nat) : Int) = x := fun x hx => by
    obtain ⟨a, _, e⟩ := List.mem_map.mp (hp.mem_iff.mp hx)
    omega
  refine ⟨S.map Int.toNat, ?_, ?_, ?_⟩
  · have := hp.map Int.toNat
    rw [List.map_map] at this
    have e : (Int.toNat ∘ fun x : Nat => (x : Int)) = id := by funext x; simp
    rw [e, List.map_id] at this
    exact this
  · exact List.pairwise_map.mpr (hs.imp fun {a b} h => by omega)
  · rw [hd, List.map_map]
    congr 2
    exact List.map_congr_left fun x hx => by
      show D.int x = D.int (x.toNat : Nat)
      rw [pos x hx]
theorem ix0 (x : D) (xs : List D) : dIx (.lst (x :: xs)) (.int 0) = some x := by
  show atI _ _ = _
  rw [show (0 : Int) = ((0 : Nat) : Int) from rfl, atI_nat']
  rfl
/-! numbers -/
def phi (n : Nat) (t r : Nat → Int) : Int := sumL (List.range n) fun v => if r v < t v then t v - r v else 0
theorem phi_step {n : Nat} {t t' r : Nat → Int} {first last : Nat} (hf : first < n) (h1 : r first < t first) (h2 : t last < r last) (ht : ∀ v, t' v = t v + (if v = last then 1 else 0) - (if v = first then 1 else 0)) : phi n t' r < phi n t r := by
  unfold phi
  refine sumL_lt (fun v _ => ?_) (List.mem_range.mpr hf) ?_
  · have := ht v
    by_cases a : v = last
    · have b : ¬ v = first := fun z => by rw [← a, z] at h2; omega
      rw [if_pos a, if_neg b] at this
      rw [← a] at h2
      rw [if_neg (show ¬ r v < t v by omega), if_neg (show ¬ r v < t' v by omega)]
      omega
    · rw [if_neg a] at this
      by_cases b : v = first
      · rw [if_pos b] at this
        rw [← b] at h1
        rw [if_pos h1]
        split <;> omega
      · rw [if_neg b] at this
        rw [show t' v = t v by omega]
        omega
  · have := ht first
    have a : ¬ first = last := fun z => by rw [← z] at h2; omega
    rw [if_neg a, if_pos rfl] at this
    rw [if_pos h1]
    split <;> omega
theorem phi_nonneg (n : Nat) (t r : Nat → Int) : 0 ≤ phi n t r := by
  have := sumL_le (f := fun _ => 0) (g := fun v => if r v < t v then t v - r v else 0) (K := List.range n) fun v _ => by
    split <;> omega
  rw [sumL_zero] at this
  exact this
theorem some_gt {n : Nat} {t r : Nat → Int} (hs : sumL (List.range n) t = sumL (List.range n) r) (hne : sameN n t r = false) : ∃ v, v < n ∧ r v < t v := by
  apply Classical.byContradiction
  intro z
  have all : ∀ v ∈ List.range n, t v ≤ r v := fun v hv => by
    have : ¬ r v < t v := fun w => z ⟨v, List.mem_range.mp hv, w⟩
    omega
  have : sameN n t r = true := sameN_iff.mpr fun v hv => by
    rcases Int.lt_or_le (t v) (r v) with a | a
    · have := sumL_lt all (List.mem_range.mpr hv) a
      omega
    · have := all v (List.mem_range.mpr hv)
      omega
  rw [hne] at this
  cases this
theorem phi_start {n m : Nat} {t r : Nat → Int} (hs : sumL (List.range n) t = m) (ht : ∀ v, 0 ≤ t v) (hr : ∀ v, v < n → -3 ≤ r v) : phi n t r ≤ m + 3 * n := by
  have h1 : phi n t r ≤ sumL (List.range n) fun v => t v + 3 := sumL_le fun v hv => by
    have := hr v (List.mem_range.mp hv)
    have := ht v
    split <;> omega
  rw [sumL_add] at h1
  have h2 : ∀ l : List Nat, sumL l (fun _ => 3) = 3 * l.length := by
    intro l
    induction l with
    | nil => rfl
    | cons x l ih => rw [sumL_cons, ih, List.length_cons]; omega
  rw [h2, List.length_range, hs] at h1
  omega
section
variable {n m : Nat} {e : Nat → Nat × Nat}
def sc (e : Nat → Nat × Nat) (m : Nat) (h : Nat → Nat) (v : Nat) : Int := (cnt (tl e h) m v : Nat)
theorem scD_eq (n m : Nat) (e : Nat → Nat × Nat) (h : Nat → Nat) : scD n m e h = rwD n (sc e m h) := rfl
def RD (n m : Nat) (e : Nat → Nat × Nat) (r : Nat → Int) (s2 s3 s4 s5 s6 : Slot) : Ev := [.imm (gO n m e), .imm (rwD n r), s2, s3, s4, s5, s6, .un, .un]
theorem XD1 (hm : m ≤ 1000) (r : Nat → Int) : X_directed_1 (RD n m e r .un .un .un .un .un) = some (.lst (hdD m fun k => (e k).2), RD n m e r .un .un .un .un .un) := by
  unfold X_directed_1
  have hfi : iVal (xAttr ["Graphic"] "edges" (xName 0)) (RD n m e r .un .un .un .un .un) = some (((List.range m).map fun k => pD (e k), none), RD n m e r .un .un .un .un .un) := rfl
  rw [xLc_run (fun k => pD (e k)) (fun k => some (.int (e k).2)) (List.range m) hfi rfl (by rw [List.length_range]; have := sizeLine_eq; omega) ?_]
  · simp [List.filterMap_eq_map, hdD, tn, Function.comp]
  · intro k hk
    unfold turnC E_directed_1 RD
    simp only [sSeq, sSet, sSetN, sAsg, sDrop, sRet, sRetN, sIf, sPar, sAug, sAugL, sNil, xName, xC, xBin, xBinN, xBinT, xCall, xCallN, xNew, xTup, xLst, xLstRg, xTupRg, xRg1, xRg2, xTru, xNot, xAndT, xOrT, xAnd, xOr, xNotV, rdB, xIf, xNeg, xMet, xMet0, xMut, xMut0, aNil, aCons, vals, rdAll, DL.R.rd, oNone, oSome, xSlL, xSlT, gSet, gsNil, gsCons, gTupD, gLstD, gSubL, freeAt, isOw, kYes, List.getElem?_cons_zero, List.getElem?_cons_succ, List.set_cons_zero, List.set_cons_succ, Option.bind_some, Option.bind_none, if_true, if_false, Bool.false_eq_true, reduceIte, List.length_cons, List.length_nil, Bool.and_true, Bool.true_and, Bool.and_self, Bool.not_true, Bool.not_false, false_and, and_false, true_and, and_true, Option.isSome_some, xCallV, xCallVN, xCallB, xCh2, xCh3, isB, xDct1, xMake, sFldD, sPutD, List.map_cons, List.map_nil, pD, wipeE]
theorem XD2 (hn : n ≤ 1000) (r : Nat → Int) (h : Nat → Nat) (s2 : D) : X_directed_2 (RD n m e r (.imm s2) (.imm (scD n m e h)) .un .un .un) = some (.lst (((List.range n).filter fun v => decide (r v < sc e m h v)).map nD), RD n m e r (.imm s2) (.imm (scD n m e h)) .un .un .un) := by
  unfold X_directed_2
  have hfi : iRg1 (xAttr ["Graphic"] "vertices" (xName 0)) (RD n m e r (.imm s2) (.imm (scD n m e h)) .un .un .un) = some (((List.range n).map nD, none), RD n m e r (.imm s2) (.imm (scD n m e h)) .un .un .un) := iRg1_nat (at_vertices ..) (by omega)
  rw [xLc_run nD (fun v => if decide (r v < sc e m h v) = true then some (nD v) else none) (List.range n) hfi rfl (by rw [List.length_range]; have := sizeLine_eq; omega) ?_]
  · rw [filterMap_if (fun v => decide (r v < sc e m h v)) nD]
  · intro v hv
    have hv := List.mem_range.mp hv
    have i1 : dIx (scD n m e h) (.int v) = some (.int (sc e m h v)) := ixT _ hv
    have i2 : dIx (rwD n r) (.int v) = some (.int (r v)) := ixT _ hv
    unfold turnC K_directed_1 E_directed_2 RD
    simp only [sSeq, sSet, sSetN, sAsg, sDrop, sRet, sRetN, sIf, sPar, sAug, sAugL, sNil, xName, xC, xBin, xBinN, xBinT, xCall, xCallN, xNew, xTup, xLst, xLstRg, xTupRg, xRg1, xRg2, xTru, xNot, xAndT, xOrT, xAnd, xOr, xNotV, rdB, xIf, xNeg, xMet, xMet0, xMut, xMut0, aNil, aCons, vals, rdAll, DL.R.rd, oNone, oSome, xSlL, xSlT, gSet, gsNil, gsCons, gTupD, gLstD, gSubL, freeAt, isOw, kYes, List.getElem?_cons_zero, List.getElem?_cons_succ, List.set_cons_zero, List.set_cons_succ, Option.bind_some, Option.bind_none, if_true, if_false, Bool.false_eq_true, reduceIte, List.length_cons, List.length_nil, Bool.and_true, Bool.true_and, Bool.and_self, Bool.not_true, Bool.not_false, false_and, and_false, true_and, and_true, Option.isSome_some, xCallV, xCallVN, xCallB, xCh2, xCh3, isB, xDct1, xMake, sFldD, sPutD, List.map_cons, List.map_nil, nD, wipeE, i1, i2, dGt_int]
    cases decide (r v < sc e m h v) with
    | true => simp only [sSeq, sSet, sSetN, sAsg, sDrop, sRet, sRetN, sIf, sPar, sAug, sAugL, sNil, xName, xC, xBin, xBinN, xBinT, xCall, xCallN, xNew, xTup, xLst, xLstRg, xTupRg, xRg1, xRg2, xTru, xNot, xAndT, xOrT, xAnd, xOr, xNotV, rdB, xIf, xNeg, xMet, xMet0, xMut, xMut0, aNil, aCons, vals, rdAll, DL.R.rd, oNone, oSome, xSlL, xSlT, gSet, gsNil, gsCons, gTupD, gLstD, gSubL, freeAt, isOw, kYes, List.getElem?_cons_zero, List.getElem?_cons_succ, List.set_cons_zero, List.set_cons_succ, Option.bind_some, Option.bind_none, if_true, if_false, Bool.false_eq_true, reduceIte, List.length_cons, List.length_nil, Bool.and_true, Bool.true_and, Bool.and_self, Bool.not_true, Bool.not_false, false_and, and_false, true_and, and_true, Option.isSome_some, xCallV, xCallVN, xCallB, xCh2, xCh3, isB, xDct1, xMake, sFldD, sPutD, List.map_cons, List.map_nil, wipeE]
    | false => simp only [sSeq, sSet, sSetN, sAsg, sDrop, sRet, sRetN, sIf, sPar, sAug, sAugL, sNil, xName, xC, xBin, xBinN, xBinT, xCall, xCallN, xNew, xTup, xLst, xLstRg, xTupRg, xRg1, xRg2, xTru, xNot, xAndT, xOrT, xAnd, xOr, xNotV, rdB, xIf, xNeg, xMet, xMet0, xMut, xMut0, aNil, aCons, vals, rdAll, DL.R.rd, oNone, oSome, xSlL, xSlT, gSet, gsNil, gsCons, gTupD, gLstD, gSubL, freeAt, isOw, kYes, List.getElem?_cons_zero, List.getElem?_cons_succ, List.set_cons_zero, List.set_cons_succ, Option.bind_some, Option.bind_none, if_true, if_false, Bool.false_eq_true, reduceIte, List.length_cons, List.length_nil, Bool.and_true, Bool.true_and, Bool.and_self, Bool.not_true, Bool.not_false, false_and, and_false, true_and, and_true, Option.isSome_some, xCallV, xCallVN, xCallB, xCh2, xCh3, isB, xDct1, xMake, sFldD, sPutD, List.map_cons, List.map_nil, wipeE]
theorem XD3 (r : Nat → Int) (h : Nat → Nat) (s2 s4 : D) (K : List Nat) (hK : ∀ v ∈ K, v < n) (hl : K.length ≤ 1000) : X_directed_3 (RD n m e r (.imm s2) (.imm (scD n m e h)) (.imm s4) (.imm (.lst (K.map nD))) .un) = some (.lst ((K.filter fun v => decide (sc e m h v < r v)).map nD), RD n m e r (.imm s2) (.imm (scD n m e h)) (.imm s4) (.imm (.lst (K.map nD))) .un) := by
  unfold X_directed_3
  rw [xLc_run nD (fun v => if decide (sc e m h v < r v) = true then some (nD v) else none) K (iVal_wr (wr := .lst) (i := 5) (.inl rfl) rfl) rfl (by have := sizeLine_eq; omega) ?_]
  · rw [filterMap_if (fun v => decide (sc e m h v < r v)) nD]
  · intro v hv
    have hv := hK v hv
    have i1 : dIx (scD n m e h) (.int v) = some (.int (sc e m h v)) := ixT _ hv
    have i2 : dIx (rwD n r) (.int v) = some (.int (r v)) := ixT _ hv
    unfold turnC K_directed_2 E_directed_3 RD
    simp only [sSeq, sSet, sSetN, sAsg, sDrop, sRet, sRetN, sIf, sPar, sAug, sAugL, sNil, xName, xC, xBin, xBinN, xBinT, xCall, xCallN, xNew, xTup, xLst, xLstRg, xTupRg, xRg1, xRg2, xTru, xNot, xAndT, xOrT, xAnd, xOr, xNotV, rdB, xIf, xNeg, xMet, xMet0, xMut, xMut0, aNil, aCons, vals, rdAll, DL.R.rd, oNone, oSome, xSlL, xSlT, gSet, gsNil, gsCons, gTupD, gLstD, gSubL, freeAt, isOw, kYes, List.getElem?_cons_zero, List.getElem?_cons_succ, List.set_cons_zero, List.set_cons_succ, Option.bind_some, Option.bind_none, if_true, if_false, Bool.false_eq_true, reduceIte, List.length_cons, List.length_nil, Bool.and_true, Bool.true_and, Bool.and_self, Bool.not_true, Bool.not_false, false_and, and_false, true_and, and_true, Option.isSome_some, xCallV, xCallVN, xCallB, xCh2, xCh3, isB, xDct1, xMake, sFldD, sPutD, List.map_cons, List.map_nil, nD, wipeE, i1, i2, dLt_int]
    cases decide (sc e m h v < r v) with
    | true => simp only [sSeq, sSet, sSetN, sAsg, sDrop, sRet, sRetN, sIf, sPar, sAug, sAugL, sNil, xName, xC, xBin, xBinN, xBinT, xCall, xCallN, xNew, xTup, xLst, xLstRg, xTupRg, xRg1, xRg2, xTru, xNot, xAndT, xOrT, xAnd, xOr, xNotV, rdB, xIf, xNeg, xMet, xMet0, xMut, xMut0, aNil, aCons, vals, rdAll, DL.R.rd, oNone, oSome, xSlL, xSlT, gSet, gsNil, gsCons, gTupD, gLstD, gSubL, freeAt, isOw, kYes, List.getElem?_cons_zero, List.getElem?_cons_succ, List.set_cons_zero, List.set_cons_succ, Option.bind_some, Option.bind_none, if_true, if_false, Bool.false_eq_true, reduceIte, List.length_cons, List.length_nil, Bool.and_true, Bool.true_and, Bool.and_self, Bool.not_true, Bool.not_false, false_and, and_false, true_and, and_true, Option.isSome_some, xCallV, xCallVN, xCallB, xCh2, xCh3, isB, xDct1, xMake, sFldD, sPutD, List.map_cons, List.map_nil, wipeE]
    | false => simp only [sSeq, sSet, sSetN, sAsg, sDrop, sRet, sRetN, sIf, sPar, sAug, sAugL, sNil, xName, xC, xBin, xBinN, xBinT, xCall, xCallN, xNew, xTup, xLst, xLstRg, xTupRg, xRg1, xRg2, xTru, xNot, xAndT, xOrT, xAnd, xOr, xNotV, rdB, xIf, xNeg, xMet, xMet0, xMut, xMut0, aNil, aCons, vals, rdAll, DL.R.rd, oNone, oSome, xSlL, xSlT, gSet, gsNil, gsCons, gTupD, gLstD, gSubL, freeAt, isOw, kYes, List.getElem?_cons_zero, List.getElem?_cons_succ, List.set_cons_zero, List.set_cons_succ, Option.bind_some, Option.bind_none, if_true, if_false, Bool.false_eq_true, reduceIte, List.length_cons, List.length_nil, Bool.and_true, Bool.true_and, Bool.and_self, Bool.not_true, Bool.not_false, false_and, and_false, true_and, and_true, Option.isSome_some, xCallV, xCallVN, xCallB, xCh2, xCh3, isB, xDct1, xMake, sFldD, sPutD, List.map_cons, List.map_nil, wipeE]
/-- vertices with more edges among them than their numbers -/
def TooMany (n m : Nat) (e : Nat → Nat × Nat) (r : Nat → Int) (K : List Nat) : Prop := K.Pairwise (· < ·) ∧ (∀ v ∈ K, v < n) ∧ sumL K r < (cntS (ins e K) m : Nat)
theorem too_many {h : Nat → Nat} {r : Nat → Int} {first : Nat} (G : GrOk n m e) (H : HdOk m e h) {Q : List En} (g : Gd n m (tl e h) h first Q) (c : Cl m (tl e h) h Q.length Q) (h1 : r first < sc e m h first) (h2 : ∀ v ∈ kys Q, ¬ sc e m h v < r v) {K : List Nat} (hp : K.Perm (kys Q)) (hs : K.Pairwise (· ≤ ·)) : TooMany n m e r K := by
  have nd : K.Nodup := hp.nodup_iff.mpr g.nd
  have hlt : ∀ v ∈ K, v < n := fun v hv => by
    obtain ⟨x, hx, ev⟩ := kys_mem.mp (hp.mem_iff.mp hv)
    rw [← ev]; exact g.lt x hx
  refine ⟨?_, hlt, ?_⟩
  · have key : ∀ l : List Nat, l.Nodup → l.Pairwise (· ≤ ·) → l.Pairwise (· < ·) := by
      intro l
      induction l with
      | nil => intro _ _; exact .nil
      | cons x l ih =>
        intro n1 n2
        obtain ⟨a1, a2⟩ := List.nodup_cons.mp n1
        obtain ⟨b1, b2⟩ := List.pairwise_cons.mp n2
        refine List.pairwise_cons.mpr ⟨fun y hy => ?_, ih a2 b2⟩
        have := b1 y hy
        have : x ≠ y := fun z => a1 (z ▸ hy)
        omega
    exact key K nd hs
  · have cl : ∀ k, k < m → tl e h k ∈ K → h k ∈ K := fun k hk ht => by
      obtain ⟨x, hx, ev⟩ := kys_mem.mp (hp.mem_iff.mp ht)
      obtain ⟨j, hj⟩ := List.getElem?_of_mem hx
      exact hp.mem_iff.mpr (c j x (at_lt hj) hj k hk ev.symm)
    rw [ins_closed H cl, ← sumL_cnt nd]
    refine sumL_lt (x := first) (fun v hv => ?_) (hp.mem_iff.mpr (kys_mem.mpr ⟨_, g.rt, rfl⟩)) h1
    have := h2 v (hp.mem_iff.mp hv)
    unfold sc at this
    omega
theorem LDir (G : GrOk n m e) (hn : n < 40) (hm : m ≤ 1000) (r : Nat → Int) (hs : sumL (List.range n) r = m) : ∀ (f : Nat) (h : Nat → Nat), HdOk m e h → phi n (sc e m h) r < f →
    (∃ h', HdOk m e h' ∧ (∀ v, v < n → sc e m h' v = r v) ∧ sWhile [4, 5, 6] K_directed_3 B_directed_1 f (RD n m e r (.imm (.lst (hdD m h))) (.imm (scD n m e h)) .un .un .un) = some (.nx (RD n m e r (.imm (.lst (hdD m h'))) (.imm (scD n m e h')) .un .un .un))) ∨
    (∃ K ρ', TooMany n m e r K ∧ sWhile [4, 5, 6] K_directed_3 B_directed_1 f (RD n m e r (.imm (.lst (hdD m h))) (.imm (scD n m e h)) .un .un .un) = some (.rt (.tup [.str "no", .tup (K.map nD)]) false (.imm (gO n m e) :: .imm (rwD n r) :: ρ')))
  | 0, h, H, hf => by have := phi_nonneg n (sc e m h) r; omega
  | f + 1, h, H, hf => by
    have c1 : dNe (scD n m e h) (rwD n r) = some (.bl (!sameN n (sc e m h) r)) := dNe_tn n (sc e m h) r
    have c2 : dTupOf [rwD n r] = some (rwD n r) := rfl
    cases hsame : sameN n (sc e m h) r with
    | true =>
      left
      refine ⟨h, H, sameN_iff.mp hsame, while_end f ?_⟩
      rw [hsame] at c1
      unfold K_directed_3 RD
      simp only [sSeq, sSet, sSetN, sAsg, sDrop, sRet, sRetN, sIf, sPar, sAug, sAugL, sNil, xName, xC, xBin, xBinN, xBinT, xCall, xCallN, xNew, xTup, xLst, xLstRg, xTupRg, xRg1, xRg2, xTru, xNot, xAndT, xOrT, xAnd, xOr, xNotV, rdB, xIf, xNeg, xMet, xMet0, xMut, xMut0, aNil, aCons, vals, rdAll, DL.R.rd, oNone, oSome, xSlL, xSlT, gSet, gsNil, gsCons, gTupD, gLstD, gSubL, freeAt, isOw, kYes, List.getElem?_cons_zero, List.getElem?_cons_succ, List.set_cons_zero, List.set_cons_succ, Option.bind_some, Option.bind_none, if_true, if_false, Bool.false_eq_true, reduceIte, List.length_cons, List.length_nil, Bool.and_true, Bool.true_and, Bool.and_self, Bool.not_true, Bool.not_false, false_and, and_false, true_and, and_true, Option.isSome_some, xCallV, xCallVN, xCallB, xCh2, xCh3, isB, xDct1, xMake, sFldD, sPutD, List.map_cons, List.map_nil, c2, c1]
    | false =>
      rw [hsame] at c1
      have hK : K_directed_3 (RD n m e r (.imm (.lst (hdD m h))) (.imm (scD n m e h)) .un .un .un) = some (true, RD n m e r (.imm (.lst (hdD m h))) (.imm (scD n m e h)) .un .un .un) := by
        unfold K_directed_3 RD
        simp only [sSeq, sSet, sSetN, sAsg, sDrop, sRet, sRetN, sIf, sPar, sAug, sAugL, sNil, xName, xC, xBin, xBinN, xBinT, xCall, xCallN, xNew, xTup, xLst, xLstRg, xTupRg, xRg1, xRg2, xTru, xNot, xAndT, xOrT, xAnd, xOr, xNotV, rdB, xIf, xNeg, xMet, xMet0, xMut, xMut0, aNil, aCons, vals, rdAll, DL.R.rd, oNone, oSome, xSlL, xSlT, gSet, gsNil, gsCons, gTupD, gLstD, gSubL, freeAt, isOw, kYes, List.getElem?_cons_zero, List.getElem?_cons_succ, List.set_cons_zero, List.set_cons_succ, Option.bind_some, Option.bind_none, if_true, if_false, Bool.false_eq_true, reduceIte, List.length_cons, List.length_nil, Bool.and_true, Bool.true_and, Bool.and_self, Bool.not_true, Bool.not_false, false_and, and_false, true_and, and_true, Option.isSome_some, xCallV, xCallVN, xCallB, xCh2, xCh3, isB, xDct1, xMake, sFldD, sPutD, List.map_cons, List.map_nil, c2, c1]
      obtain ⟨v0, hv0, hgt0⟩ := some_gt ((sum_all G H).trans hs.symm) hsame
      have hne : ((List.range n).filter fun v => decide (r v < sc e m h v)) ≠ [] := fun z => by
        have : v0 ∈ ((List.range n).filter fun v => decide (r v < sc e m h v)) := List.mem_filter.mpr ⟨List.mem_range.mpr hv0, decide_eq_true hgt0⟩
        rw [z] at this
        cases this
      obtain ⟨first, rest, hfr⟩ := List.exists_cons_of_ne_nil hne
      have hfm : first ∈ ((List.range n).filter fun v => decide (r v < sc e m h v)) := by rw [hfr]; exact List.mem_cons_self
      obtain ⟨hf1, hf2⟩ := List.mem_filter.mp hfm
      have hf1 := List.mem_range.mp hf1
      have hf2 := of_decide_eq_true hf2
      have x2 := XD2 (n := n) (m := m) (e := e) (by omega) r h (.lst (hdD m h))
      rw [hfr] at x2
      have i1 : dIx (.lst ((first :: rest).map nD)) (.int 0) = some (.int first) := ix0 _ _
      have s1 : sSet 4 (xBin dIx (xNew X_directed_2) (xC (.int 0))) (RD n m e r (.imm (.lst (hdD m h))) (.imm (scD n m e h)) .un .un .un) = some (.nx (RD n m e r (.imm (.lst (hdD m h))) (.imm (scD n m e h)) (.imm (.int first)) .un .un)) := by
        unfold RD at x2 ⊢
        generalize (first :: rest).map nD = fr at x2 i1
        simp only [sSeq, sSet, sSetN, sAsg, sDrop, sRet, sRetN, sIf, sPar, sAug, sAugL, sNil, xName, xC, xBin, xBinN, xBinT, xCall, xCallN, xNew, xTup, xLst, xLstRg, xTupRg, xRg1, xRg2, xTru, xNot, xAndT, xOrT, xAnd, xOr, xNotV, rdB, xIf, xNeg, xMet, xMet0, xMut, xMut0, aNil, aCons, vals, rdAll, DL.R.rd, oNone, oSome, xSlL, xSlT, gSet, gsNil, gsCons, gTupD, gLstD, gSubL, freeAt, isOw, kYes, List.getElem?_cons_zero, List.getElem?_cons_succ, List.set_cons_zero, List.set_cons_succ, Option.bind_some, Option.bind_none, if_true, if_false, Bool.false_eq_true, reduceIte, List.length_cons, List.length_nil, Bool.and_true, Bool.true_and, Bool.and_self, Bool.not_true, Bool.not_false, false_and, and_false, true_and, and_true, Option.isSome_some, xCallV, xCallVN, xCallB, xCh2, xCh3, isB, xDct1, xMake, sFldD, sPutD, List.map_cons, List.map_nil, x2, i1]
      have hh : ∀ k, k < m → h k < n := fun k hk => (tl_lt G H hk).2
      obtain ⟨gd, cl, _⟩ := bRun_ok (t := tl e h) (h := h) hh 40 [root first] 0 (.one hf1) (fun j z hj => by omega) (by simp) (by omega)
      have e5 := led_eq (first := first) G H hn hm (wr := .lst) (.inl rfl) hf1
      have te := turned_eq (first := first) G H hn hm (wr := .lst) (.inl rfl) hf1
      generalize hQ : bRun (tl e h) h m 40 [root first] 0 = Q at gd cl e5 te
      have s2 : sSet 5 (xCallV m_led_to (aCons (xName 0) (aCons (xName 2) (aCons (xName 4) aNil)))) (RD n m e r (.imm (.lst (hdD m h))) (.imm (scD n m e h)) (.imm (.int first)) .un .un) = some (.nx (RD n m e r (.imm (.lst (hdD m h))) (.imm (scD n m e h)) (.imm (.int first)) (.imm (.lst ((kys Q).map nD))) .un)) := by
        unfold RD
        simp only [sSeq, sSet, sSetN, sAsg, sDrop, sRet, sRetN, sIf, sPar, sAug, sAugL, sNil, xName, xC, xBin, xBinN, xBinT, xCall, xCallN, xNew, xTup, xLst, xLstRg, xTupRg, xRg1, xRg2, xTru, xNot, xAndT, xOrT, xAnd, xOr, xNotV, rdB, xIf, xNeg, xMet, xMet0, xMut, xMut0, aNil, aCons, vals, rdAll, DL.R.rd, oNone, oSome, xSlL, xSlT, gSet, gsNil, gsCons, gTupD, gLstD, gSubL, freeAt, isOw, kYes, List.getElem?_cons_zero, List.getElem?_cons_succ, List.set_cons_zero, List.set_cons_succ, Option.bind_some, Option.bind_none, if_true, if_false, Bool.false_eq_true, reduceIte, List.length_cons, List.length_nil, Bool.and_true, Bool.true_and, Bool.and_self, Bool.not_true, Bool.not_false, false_and, and_false, true_and, and_true, Option.isSome_some, xCallV, xCallVN, xCallB, xCh2, xCh3, isB, xDct1, xMake, sFldD, sPutD, List.map_cons, List.map_nil, e5]
      have hKn : ∀ v ∈ kys Q, v < n := fun v hv => by
        obtain ⟨x, hx, ev⟩ := kys_mem.mp hv
        rw [← ev]; exact gd.lt x hx
      have x3 := XD3 (n := n) (m := m) (e := e) r h (.lst (hdD m h)) (.int first) (kys Q) hKn (by have := gd.len; simp [kys]; omega)
      cases hls : (kys Q).filter fun v => decide (sc e m h v < r v) with
      | nil =>
        right
        rw [hls] at x3
        obtain ⟨K, k1, k2, k3⟩ := sort_nats (kys Q)
        refine ⟨K, [.imm (.lst (hdD m h)), .imm (scD n m e h), .imm (.int first), .imm (.lst ((kys Q).map nD)), .imm (.lst []), .un, .un], too_many G H gd cl hf2 (fun v hv z => ?_) k1 k2, while_rt f hK ?_⟩
        · have : v ∈ (kys Q).filter fun v => decide (sc e m h v < r v) := List.mem_filter.mpr ⟨hv, decide_eq_true z⟩
          rw [hls] at this
          cases this
        · have s3 : sSet 6 (xNew X_directed_3) (RD n m e r (.imm (.lst (hdD m h))) (.imm (scD n m e h)) (.imm (.int first)) (.imm (.lst ((kys Q).map nD))) .un) = some (.nx (RD n m e r (.imm (.lst (hdD m h))) (.imm (scD n m e h)) (.imm (.int first)) (.imm (.lst ((kys Q).map nD))) (.imm (.lst [])))) := by
            unfold RD at x3 ⊢
            simp only [sSeq, sSet, sSetN, sAsg, sDrop, sRet, sRetN, sIf, sPar, sAug, sAugL, sNil, xName, xC, xBin, xBinN, xBinT, xCall, xCallN, xNew, xTup, xLst, xLstRg, xTupRg, xRg1, xRg2, xTru, xNot, xAndT, xOrT, xAnd, xOr, xNotV, rdB, xIf, xNeg, xMet, xMet0, xMut, xMut0, aNil, aCons, vals, rdAll, DL.R.rd, oNone, oSome, xSlL, xSlT, gSet, gsNil, gsCons, gTupD, gLstD, gSubL, freeAt, isOw, kYes, List.getElem?_cons_zero, List.getElem?_cons_succ, List.set_cons_zero, List.set_cons_succ, Option.bind_some, Option.bind_none, if_true, if_false, Bool.false_eq_true, reduceIte, List.length_cons, List.length_nil, Bool.and_true, Bool.true_and, Bool.and_self, Bool.not_true, Bool.not_false, false_and, and_false, true_and, and_true, Option.isSome_some, xCallV, xCallVN, xCallB, xCh2, xCh3, isB, xDct1, xMake, sFldD, sPutD, List.map_cons, List.map_nil, x3]
          unfold B_directed_1
          refine step _ s1 (step _ s2 (step _ s3 (sSeq_rt ?_)))
          have l0 : dLen [.lst []] = some (.int 0) := rfl
          have g2 : Grd (0 + 1 + 1 ≤ sizeLine) = True := grdN (by omega)
          have t0 : dTupOf [.lst (K.map nD)] = some (.tup (K.map nD)) := rfl
          unfold RD
          generalize K.map nD = kd at k3 t0
          simp only [sSeq, sSet, sSetN, sAsg, sDrop, sRet, sRetN, sIf, sPar, sAug, sAugL, sNil, xName, xC, xBin, xBinN, xBinT, xCall, xCallN, xNew, xTup, xLst, xLstRg, xTupRg, xRg1, xRg2, xTru, xNot, xAndT, xOrT, xAnd, xOr, xNotV, rdB, xIf, xNeg, xMet, xMet0, xMut, xMut0, aNil, aCons, vals, rdAll, DL.R.rd, oNone, oSome, xSlL, xSlT, gSet, gsNil, gsCons, gTupD, gLstD, gSubL, freeAt, isOw, kYes, List.getElem?_cons_zero, List.getElem?_cons_succ, List.set_cons_zero, List.set_cons_succ, Option.bind_some, Option.bind_none, if_true, if_false, Bool.false_eq_true, reduceIte, List.length_cons, List.length_nil, Bool.and_true, Bool.true_and, Bool.and_self, Bool.not_true, Bool.not_false, false_and, and_false, true_and, and_true, Option.isSome_some, xCallV, xCallVN, xCallB, xCh2, xCh3, isB, xDct1, xMake, sFldD, sPutD, List.map_cons, List.map_nil, l0, dEq_int, beq_self_eq_true, k3, t0, g2]
      | cons last more =>
        rw [hls] at x3
        have hlm : last ∈ (kys Q).filter fun v => decide (sc e m h v < r v) := by rw [hls]; exact List.mem_cons_self
        obtain ⟨hl1, hl2⟩ := List.mem_filter.mp hlm
        have hl2 := of_decide_eq_true hl2
        rcases te last with ⟨a, _⟩ | ⟨x, hx, ev, fs, T, e6⟩
        · exact absurd hl1 a
        have e7 := scores_eq G T.hd (by omega) hm (wr := .lst) (.inl rfl)
        have dec : phi n (sc e m fs) r < phi n (sc e m h) r := phi_step hf1 hf2 hl2 T.sc
        have run : sWhile [4, 5, 6] K_directed_3 B_directed_1 (f + 1) (RD n m e r (.imm (.lst (hdD m h))) (.imm (scD n m e h)) .un .un .un) = sWhile [4, 5, 6] K_directed_3 B_directed_1 f (RD n m e r (.imm (.lst (hdD m fs))) (.imm (scD n m e fs)) .un .un .un) := by
          rw [while_go (ρ1 := RD n m e r (.imm (.lst (hdD m h))) (.imm (scD n m e h)) .un .un .un) (ρ2 := RD n m e r (.imm (.lst (hdD m fs))) (.imm (scD n m e fs)) (.imm (.int first)) (.imm (.lst ((kys Q).map nD))) (.imm (.lst ((last :: more).map nD)))) f hK ?_]
          · unfold RD
            simp only [sSeq, sSet, sSetN, sAsg, sDrop, sRet, sRetN, sIf, sPar, sAug, sAugL, sNil, xName, xC, xBin, xBinN, xBinT, xCall, xCallN, xNew, xTup, xLst, xLstRg, xTupRg, xRg1, xRg2, xTru, xNot, xAndT, xOrT, xAnd, xOr, xNotV, rdB, xIf, xNeg, xMet, xMet0, xMut, xMut0, aNil, aCons, vals, rdAll, DL.R.rd, oNone, oSome, xSlL, xSlT, gSet, gsNil, gsCons, gTupD, gLstD, gSubL, freeAt, isOw, kYes, List.getElem?_cons_zero, List.getElem?_cons_succ, List.set_cons_zero, List.set_cons_succ, Option.bind_some, Option.bind_none, if_true, if_false, Bool.false_eq_true, reduceIte, List.length_cons, List.length_nil, Bool.and_true, Bool.true_and, Bool.and_self, Bool.not_true, Bool.not_false, false_and, and_false, true_and, and_true, Option.isSome_some, xCallV, xCallVN, xCallB, xCh2, xCh3, isB, xDct1, xMake, sFldD, sPutD, List.map_cons, List.map_nil, wps, wp1, List.foldl_cons, List.foldl_nil]
          · have s3 : sSet 6 (xNew X_directed_3) (RD n m e r (.imm (.lst (hdD m h))) (.imm (scD n m e h)) (.imm (.int first)) (.imm (.lst ((kys Q).map nD))) .un) = some (.nx (RD n m e r (.imm (.lst (hdD m h))) (.imm (scD n m e h)) (.imm (.int first)) (.imm (.lst ((kys Q).map nD))) (.imm (.lst ((last :: more).map nD))))) := by
              unfold RD at x3 ⊢
              generalize (last :: more).map nD = ls at x3 ⊢
              simp only [sSeq, sSet, sSetN, sAsg, sDrop, sRet, sRetN, sIf, sPar, sAug, sAugL, sNil, xName, xC, xBin, xBinN, xBinT, xCall, xCallN, xNew, xTup, xLst, xLstRg, xTupRg, xRg1, xRg2, xTru, xNot, xAndT, xOrT, xAnd, xOr, xNotV, rdB, xIf, xNeg, xMet, xMet0, xMut, xMut0, aNil, aCons, vals, rdAll, DL.R.rd, oNone, oSome, xSlL, xSlT, gSet, gsNil, gsCons, gTupD, gLstD, gSubL, freeAt, isOw, kYes, List.getElem?_cons_zero, List.getElem?_cons_succ, List.set_cons_zero, List.set_cons_succ, Option.bind_some, Option.bind_none, if_true, if_false, Bool.false_eq_true, reduceIte, List.length_cons, List.length_nil, Bool.and_true, Bool.true_and, Bool.and_self, Bool.not_true, Bool.not_false, false_and, and_false, true_and, and_true, Option.isSome_some, xCallV, xCallVN, xCallB, xCh2, xCh3, isB, xDct1, xMake, sFldD, sPutD, List.map_cons, List.map_nil, x3]
            unfold B_directed_1
            have l1 : dLen [.lst ((last :: more).map nD)] = some (.int (more.length + 1 : Nat)) := by simp [dLen]
            have z1 : (((more.length + 1 : Nat) : Int) == 0) = false := by rw [beq_eq_false_iff_ne]; omega
            have i2 : dIx (.lst ((last :: more).map nD)) (.int 0) = some (.int last) := ix0 _ _
            refine step _ s1 (step _ s2 (step _ s3 ?_))
            generalize (last :: more).map nD = ls at l1 i2 ⊢
            unfold RD
            simp only [sSeq, sSet, sSetN, sAsg, sDrop, sRet, sRetN, sIf, sPar, sAug, sAugL, sNil, xName, xC, xBin, xBinN, xBinT, xCall, xCallN, xNew, xTup, xLst, xLstRg, xTupRg, xRg1, xRg2, xTru, xNot, xAndT, xOrT, xAnd, xOr, xNotV, rdB, xIf, xNeg, xMet, xMet0, xMut, xMut0, aNil, aCons, vals, rdAll, DL.R.rd, oNone, oSome, xSlL, xSlT, gSet, gsNil, gsCons, gTupD, gLstD, gSubL, freeAt, isOw, kYes, List.getElem?_cons_zero, List.getElem?_cons_succ, List.set_cons_zero, List.set_cons_succ, Option.bind_some, Option.bind_none, if_true, if_false, Bool.false_eq_true, reduceIte, List.length_cons, List.length_nil, Bool.and_true, Bool.true_and, Bool.and_self, Bool.not_true, Bool.not_false, false_and, and_false, true_and, and_true, Option.isSome_some, xCallV, xCallVN, xCallB, xCh2, xCh3, isB, xDct1, xMake, sFldD, sPutD, List.map_cons, List.map_nil, l1, dEq_int, z1, i2, e6, e7]
        rcases LDir G hn hm r hs f fs T.hd (by omega) with ⟨h', a, b, c⟩ | ⟨K, ρ', a, b⟩
        · exact .inl ⟨h', a, b, run.trans c⟩
        · exact .inr ⟨K, ρ', a, run.trans b⟩
inductive Dir (n m : Nat) (e : Nat → Nat × Nat) (r : Nat → Int) : D → Prop where
  | none : sumL (List.range n) r ≠ m → Dir n m e r (.tup [.str "no", .non])
  | yes (h : Nat → Nat) : HdOk m e h → (∀ v, v < n → sc e m h v = r v) → sumL (List.range n) r = m → Dir n m e r (.tup [.str "yes", .tup (hdD m h)])
  | no (K : List Nat) : TooMany n m e r K → sumL (List.range n) r = m → Dir n m e r (.tup [.str "no", .tup (K.map nD)])
theorem dir_eq (G : GrOk n m e) (hn : n < 40) (hm : m ≤ 100) (r : Nat → Int) (hr : ∀ v, v < n → -3 ≤ r v) : ∃ d, Dir n m e r d ∧ m_directed [.imm (gO n m e), .imm (rwD n r)] = some (d, [.imm (gO n m e), .imm (rwD n r)]) := by
  have c1 := sumT_eq n r
  have g2 : Grd (0 + 1 + 1 ≤ sizeLine) = True := grdN (by omega)
  by_cases hs : sumL (List.range n) r = m
  · have b1 : (sumL (List.range n) r == (m : Nat)) = true := by rw [beq_iff_eq]; exact hs
    have H0 : HdOk m e fun k => (e k).2 := fun k _ => .inr rfl
    have x1 := XD1 (n := n) (m := m) (e := e) (by omega) r
    have e1 := scores_eq G H0 (by omega) (by omega) (wr := .lst) (.inl rfl)
    have p0 := phi_start (n := n) (m := m) (t := sc e m fun k => (e k).2) (r := r) (sum_all G H0) (fun v => by unfold sc; omega) hr
    generalize (fun k => (e k).2) = h0 at H0 x1 e1 p0
    have start : ∀ o : D × Ev, L_directed_1 (RD n m e r (.imm (.lst (hdD m h0))) (.imm (scD n m e h0)) .un .un .un) = some (.rt o.1 false o.2) → b_directed [.imm (gO n m e), .imm (rwD n r), .un, .un, .un, .un, .un, .un, .un] = some (.rt o.1 false o.2) := by
      intro o ho
      unfold b_directed
      unfold RD at x1 ho
      simp only [sSeq, sSet, sSetN, sAsg, sDrop, sRet, sRetN, sIf, sPar, sAug, sAugL, sNil, xName, xC, xBin, xBinN, xBinT, xCall, xCallN, xNew, xTup, xLst, xLstRg, xTupRg, xRg1, xRg2, xTru, xNot, xAndT, xOrT, xAnd, xOr, xNotV, rdB, xIf, xNeg, xMet, xMet0, xMut, xMut0, aNil, aCons, vals, rdAll, DL.R.rd, oNone, oSome, xSlL, xSlT, gSet, gsNil, gsCons, gTupD, gLstD, gSubL, freeAt, isOw, kYes, List.getElem?_cons_zero, List.getElem?_cons_succ, List.set_cons_zero, List.set_cons_succ, Option.bind_some, Option.bind_none, if_true, if_false, Bool.false_eq_true, reduceIte, List.length_cons, List.length_nil, Bool.and_true, Bool.true_and, Bool.and_self, Bool.not_true, Bool.not_false, false_and, and_false, true_and, and_true, Option.isSome_some, xCallV, xCallVN, xCallB, xCh2, xCh3, isB, xDct1, xMake, sFldD, sPutD, List.map_cons, List.map_nil, c1, at_size, dNe_int, b1, x1, e1, ho]
    have start2 : ∀ h', L_directed_1 (RD n m e r (.imm (.lst (hdD m h0))) (.imm (scD n m e h0)) .un .un .un) = some (.nx (RD n m e r (.imm (.lst (hdD m h'))) (.imm (scD n m e h')) .un .un .un)) → b_directed [.imm (gO n m e), .imm (rwD n r), .un, .un, .un, .un, .un, .un, .un] = some (.rt (.tup [.str "yes", .tup (hdD m h')]) false (RD n m e r (.imm (.lst (hdD m h'))) (.imm (scD n m e h')) .un .un .un)) := by
      intro h' ho
      have t0 : dTupOf [.lst (hdD m h')] = some (.tup (hdD m h')) := rfl
      unfold b_directed
      unfold RD at x1 ho ⊢
      simp only [sSeq, sSet, sSetN, sAsg, sDrop, sRet, sRetN, sIf, sPar, sAug, sAugL, sNil, xName, xC, xBin, xBinN, xBinT, xCall, xCallN, xNew, xTup, xLst, xLstRg, xTupRg, xRg1, xRg2, xTru, xNot, xAndT, xOrT, xAnd, xOr, xNotV, rdB, xIf, xNeg, xMet, xMet0, xMut, xMut0, aNil, aCons, vals, rdAll, DL.R.rd, oNone, oSome, xSlL, xSlT, gSet, gsNil, gsCons, gTupD, gLstD, gSubL, freeAt, isOw, kYes, List.getElem?_cons_zero, List.getElem?_cons_succ, List.set_cons_zero, List.set_cons_succ, Option.bind_some, Option.bind_none, if_true, if_false, Bool.false_eq_true, reduceIte, List.length_cons, List.length_nil, Bool.and_true, Bool.true_and, Bool.and_self, Bool.not_true, Bool.not_false, false_and, and_false, true_and, and_true, Option.isSome_some, xCallV, xCallVN, xCallB, xCh2, xCh3, isB, xDct1, xMake, sFldD, sPutD, List.map_cons, List.map_nil, c1, at_size, dNe_int, b1, x1, e1, ho, t0, g2]
    rcases LDir G hn (by omega) r hs 400 h0 H0 (by omega) with ⟨h', a, b, c⟩ | ⟨K, ρ', a, b⟩
    · exact ⟨_, .yes h' a b hs, fnD_rt (b := false) (start2 h' c) rfl (.inl rfl) rfl⟩
    · exact ⟨_, .no K a hs, fnD_rt (b := false) (start (_, _) b) rfl (.inl rfl) rfl⟩
  · have b1 : (sumL (List.range n) r == (m : Nat)) = false := by rw [beq_eq_false_iff_ne]; exact hs
    refine ⟨_, .none hs, fnD_rt (b := false) (ρ' := RD n m e r .un .un .un .un .un) ?_ rfl (.inl rfl) rfl⟩
    show b_directed [.imm (gO n m e), .imm (rwD n r), .un, .un, .un, .un, .un, .un, .un] = _
    unfold b_directed RD
    simp only [sSeq, sSet, sSetN, sAsg, sDrop, sRet, sRetN, sIf, sPar, sAug, sAugL, sNil, xName, xC, xBin, xBinN, xBinT, xCall, xCallN, xNew, xTup, xLst, xLstRg, xTupRg, xRg1, xRg2, xTru, xNot, xAndT, xOrT, xAnd, xOr, xNotV, rdB, xIf, xNeg, xMet, xMet0, xMut, xMut0, aNil, aCons, vals, rdAll, DL.R.rd, oNone, oSome, xSlL, xSlT, gSet, gsNil, gsCons, gTupD, gLstD, gSubL, freeAt, isOw, kYes, List.getElem?_cons_zero, List.getElem?_cons_succ, List.set_cons_zero, List.set_cons_succ, Option.bind_some, Option.bind_none, if_true, if_false, Bool.false_eq_true, reduceIte, List.length_cons, List.length_nil, Bool.and_true, Bool.true_and, Bool.and_self, Bool.not_true, Bool.not_false, false_and, and_false, true_and, and_true, Option.isSome_some, xCallV, xCallVN, xCallB, xCh2, xCh3, isB, xDct1, xMake, sFldD, sPutD, List.map_cons, List.map_nil, c1, at_size, dNe_int, b1, g2]
end
end K59

set_option maxRecDepth 100000
namespace K59
open PySem PySem.Spec PyProof.Rows L2 DL
/-- the law's tape: the script, where it stands, what is left of a great number, the seed -/
def tape (sc : List Int) (i rest seed : Nat) : D := .lst [.frz (sc.map .int), .int i, .int rest, .int seed]
def TapeOk (t : D) : Prop := ∃ sc i rest seed, t = tape sc i rest seed ∧ seed < 2147483648
theorem okMulS {i j : Int} (h : -(2 ^ 64) < j ∧ j < 2 ^ 64) : CMul i j := .inr h
theorem dMul_ok {i j : Int} (h : CMul i j) : dMul (.int i) (.int j) = some (.int (i * j)) := by
  show (if CMul i j then some (D.int (i * j)) else none) = _
  rw [if_pos h]
theorem dDiv_ok {i j : Int} (h : CDiv i j) : dDiv (.int i) (.int j) = some (.int (i / j)) := by
  show (if CDiv i j then some (D.int (i / j)) else none) = _
  rw [if_pos h]
theorem dMod_ok {i j : Int} (h : 0 < j) : dMod (.int i) (.int j) = some (.int (i % j)) := by
  show (if 0 < j then some (D.int (i % j)) else none) = _
  rw [if_pos h]
theorem dPow_1018 : dPow (.int 10) (.int 18) = some (.int 1000000000000000000) := by
  show (if CPow 10 18 then some (D.int (10 ^ (18 : Int).toNat)) else none) = _
  rw [if_pos (show CPow 10 18 from ⟨by omega, by omega, by decide⟩)]
  rfl
theorem dPlusI (a b : Int) : dPlus (.int a) (.int b) = some (.int (a + b)) := rfl
theorem dLtI (a b : Int) : dLt (.int a) (.int b) = some (.bl (decide (a < b))) := rfl
theorem dGtI (a b : Int) : dGt (.int a) (.int b) = some (.bl (decide (b < a))) := rfl
theorem dGeI (a b : Int) : dGe (.int a) (.int b) = some (.bl (decide (b ≤ a))) := rfl
theorem tp0 (a b c d : D) : dIx (.lst [a, b, c, d]) (.int 0) = some a := rfl
theorem tp1 (a b c d : D) : dIx (.lst [a, b, c, d]) (.int 1) = some b := rfl
theorem tp2 (a b c d : D) : dIx (.lst [a, b, c, d]) (.int 2) = some c := rfl
theorem tp3 (a b c d : D) : dIx (.lst [a, b, c, d]) (.int 3) = some d := rfl
theorem ix4_1 : ixN 4 1 = some 1 := rfl
theorem ix4_2 : ixN 4 2 = some 2 := rfl
theorem ix4_3 : ixN 4 3 = some 3 := rfl
/-- the second half of a draw -/
noncomputable def pick2 : FS := (sSeq (sIf (xBinT dGt (xBin dIx (xName 0) (xC (.int 2))) (xC (.int 0))) (sSeq (sSet 3 (xBin dMod (xCall dInt (aCons (xBin dIx (xName 0) (xC (.int 2))) aNil)) (xName 1))) (sSeq (sAsg (xBin dDiv (xBin dIx (xName 0) (xC (.int 2))) (xName 1)) (gSubL 0 (xC (.int 2)))) (sRet (xName 3)))) sNil) (sSeq (sAsg (xBin dMod (xCall dInt (aCons (xBin dMul (xBin dIx (xName 0) (xC (.int 3))) (xC (.int 48271))) aNil)) (xC (.int 2147483647))) (gSubL 0 (xC (.int 3)))) (sRet (xBin dMod (xCall dInt (aCons (xBin dPlus (xBin dDiv (xBin dIx (xName 0) (xC (.int 3))) (xC (.int 5))) (xBin dMod (xCall dInt (aCons (xBin dMul (xBin dIx (xName 0) (xC (.int 3))) (xBin dIx (xName 0) (xC (.int 3)))) aNil)) (xC (.int 2147483629)))) aNil)) (xName 1)))))
theorem pick2_ok (sc : List Int) (i rest seed lim : Nat) (s2 : Slot) (hs : seed < 2147483648) (h1 : 1 ≤ lim) (h2 : lim < 1000000000) :
    ∃ t' d ρ', TapeOk t' ∧ d < lim ∧ pick2 [.ow true (tape sc i rest seed), .imm (.int lim), s2, .un] = some (.rt (.int (d : Nat)) false (.ow true t' :: .imm (.int lim) :: ρ')) := by
  by_cases hr : 0 < rest
  · refine ⟨tape sc i (rest / lim) seed, rest % lim, [s2, .imm (.int (rest % lim : Nat))], ⟨sc, i, rest / lim, seed, rfl, hs⟩, Nat.mod_lt _ (by omega), ?_⟩
    have hd : decide ((0 : Int) < (rest : Nat)) = true := decide_eq_true (by omega)
    have hm : dMod (.int rest) (.int lim) = some (.int (rest % lim : Nat)) := by rw [dMod_ok (by omega)]; rfl
    have hq : dDiv (.int rest) (.int lim) = some (.int (rest / lim : Nat)) := by rw [dDiv_ok ⟨by omega, by omega⟩]; rfl
    unfold pick2 tape
    simp only [sSeq, sSet, sSetN, sAsg, sDrop, sRet, sRetN, sIf, sPar, sAug, sAugL, sNil, xName, xC, xBin, xBinN, xBinT, xCall, xCallN, xNew, xTup, xLst, xLstRg, xTupRg, xRg1, xRg2, xTru, xNot, xAndT, xOrT, xAnd, xOr, xNotV, rdB, xIf, xNeg, xMet, xMet0, xMut, xMut0, aNil, aCons, vals, rdAll, R.rd, oNone, oSome, xSlL, xSlT, gSet, gsNil, gsCons, gTupD, gLstD, gSubL, freeAt, isOw, kYes, List.getElem?_cons_zero, List.getElem?_cons_succ, List.set_cons_zero, List.set_cons_succ, Option.bind_some, Option.bind_none, if_true, if_false, Bool.false_eq_true, reduceIte, List.length_cons, List.length_nil, Bool.and_true, Bool.true_and, Bool.and_self, Bool.not_true, Bool.not_false, false_and, and_false, true_and, and_true, Option.isSome_some, tp2, dGtI, hd, dInt, hm, hq, Nat.reduceAdd, ix4_2]
  · have hr0 : rest = 0 := by omega
    subst hr0
    have hd : decide ((0 : Int) < ((0 : Nat) : Int)) = false := rfl
    have e1 : dMul (.int seed) (.int 48271) = some (.int (seed * 48271 : Nat)) := by rw [dMul_ok (okMulS (by omega))]; rfl
    have e2 : dMod (.int (seed * 48271 : Nat)) (.int 2147483647) = some (.int (seed * 48271 % 2147483647 : Nat)) := by rw [dMod_ok (by omega)]; rfl
    have hs2 : seed * 48271 % 2147483647 < 2147483648 := by omega
    generalize seed * 48271 % 2147483647 = s3 at e2 hs2
    have e3 : dDiv (.int s3) (.int 5) = some (.int (s3 / 5 : Nat)) := by rw [dDiv_ok ⟨by omega, by omega⟩]; rfl
    have e4 : dMul (.int s3) (.int s3) = some (.int (s3 * s3 : Nat)) := by rw [dMul_ok (okMulS (by omega))]; rfl
    have e5 : dMod (.int (s3 * s3 : Nat)) (.int 2147483629) = some (.int (s3 * s3 % 2147483629 : Nat)) := by rw [dMod_ok (by omega)]; rfl
    generalize s3 * s3 % 2147483629 = s4 at e5
    have e6 : dPlus (.int (s3 / 5 : Nat)) (.int s4) = some (.int (s3 / 5 + s4 : Nat)) := rfl
    have e7 : dMod (.int (s3 / 5 + s4 : Nat)) (.int lim) = some (.int ((s3 / 5 + s4) % lim : Nat)) := by rw [dMod_ok (by omega)]; rfl
    refine ⟨tape sc i 0 s3, (s3 / 5 + s4) % lim, [s2, .un], ⟨sc, i, 0, s3, rfl, hs2⟩, Nat.mod_lt _ (by omega), ?_⟩
    unfold pick2 tape
    simp only [sSeq, sSet, sSetN, sAsg, sDrop, sRet, sRetN, sIf, sPar, sAug, sAugL, sNil, xName, xC, xBin, xBinN, xBinT, xCall, xCallN, xNew, xTup, xLst, xLstRg, xTupRg, xRg1, xRg2, xTru, xNot, xAndT, xOrT, xAnd, xOr, xNotV, rdB, xIf, xNeg, xMet, xMet0, xMut, xMut0, aNil, aCons, vals, rdAll, R.rd, oNone, oSome, xSlL, xSlT, gSet, gsNil, gsCons, gTupD, gLstD, gSubL, freeAt, isOw, kYes, List.getElem?_cons_zero, List.getElem?_cons_succ, List.set_cons_zero, List.set_cons_succ, Option.bind_some, Option.bind_none, if_true, if_false, Bool.false_eq_true, reduceIte, List.length_cons, List.length_nil, Bool.and_true, Bool.true_and, Bool.and_self, Bool.not_true, Bool.not_false, false_and, and_false, true_and, and_true, Option.isSome_some, tp2, tp3, dGtI, hd, dInt, e1, e2, e3, e4, e5, e6, e7, Nat.reduceAdd, ix4_3]
theorem sSeq_nx {s1 s2 : FS} {ρ ρ1 : Ev} (h : s1 ρ = some (.nx ρ1)) : sSeq s1 s2 ρ = s2 ρ1 := by
  unfold sSeq
  rw [h]
  rfl
theorem len_frz (sc : List Int) : dLen [.frz (sc.map .int)] = some (.int sc.length) := by simp [dLen]
/-- A DRAW: a number below the limit, and a tape again -/
theorem pick_ok {t : D} (ht : TapeOk t) (lim : Nat) (h1 : 1 ≤ lim) (h2 : lim < 1000000000) :
    ∃ t' d, TapeOk t' ∧ d < lim ∧ m__law_pick [.ow true t, .imm (.int lim)] = some (.int (d : Nat), [.ow true t', .imm (.int lim)]) := by
  obtain ⟨sc, i, rest, seed, rfl, hs⟩ := ht
  have fin : ∀ {t' : D} {d : Nat} {ρ' : Ev}, TapeOk t' → d < lim → b__law_pick [.ow true (tape sc i rest seed), .imm (.int lim), .un, .un] = some (.rt (.int (d : Nat)) false (.ow true t' :: .imm (.int lim) :: ρ')) →
      ∃ t' d, TapeOk t' ∧ d < lim ∧ m__law_pick [.ow true (tape sc i rest seed), .imm (.int lim)] = some (.int (d : Nat), [.ow true t', .imm (.int lim)]) := fun h3 h4 e => ⟨_, _, h3, h4, fnD_rt e rfl (.inl rfl) rfl⟩
  have start : b__law_pick = sSeq (sIf (xAndT (xBinT dEq (xBin dIx (xName 0) (xC (.int 2))) (xC (.int 0))) (xBinT dLt (xBin dIx (xName 0) (xC (.int 1))) (xCall dLen (aCons (xBin dIx (xName 0) (xC (.int 0))) aNil)))) (sSeq (sSet 2 (xCall dAbs (aCons (xBin dIx (xBin dIx (xName 0) (xC (.int 0))) (xBin dIx (xName 0) (xC (.int 1)))) aNil))) (sSeq (sAsg (xBin dPlus (xBin dIx (xName 0) (xC (.int 1))) (xC (.int 1))) (gSubL 0 (xC (.int 1)))) (sIf (xBinT dGe (xName 2) (xBin dPow (xC (.int 10)) (xC (.int 18)))) (sAsg (xName 2) (gSubL 0 (xC (.int 2)))) (sAsg (xBin dPlus (xBin dMod (xCall dInt (aCons (xBin dPlus (xBin dMul (xBin dIx (xName 0) (xC (.int 3))) (xC (.int 48271))) (xName 2)) aNil)) (xC (.int 2147483646))) (xC (.int 1))) (gSubL 0 (xC (.int 3))))))) sNil) pick2 := rfl
  have go : ∀ (i2 rest2 seed2 : Nat) (s2 : Slot), seed2 < 2147483648 → (sIf (xAndT (xBinT dEq (xBin dIx (xName 0) (xC (.int 2))) (xC (.int 0))) (xBinT dLt (xBin dIx (xName 0) (xC (.int 1))) (xCall dLen (aCons (xBin dIx (xName 0) (xC (.int 0))) aNil)))) (sSeq (sSet 2 (xCall dAbs (aCons (xBin dIx (xBin dIx (xName 0) (xC (.int 0))) (xBin dIx (xName 0) (xC (.int 1)))) aNil))) (sSeq (sAsg (xBin dPlus (xBin dIx (xName 0) (xC (.int 1))) (xC (.int 1))) (gSubL 0 (xC (.int 1)))) (sIf (xBinT dGe (xName 2) (xBin dPow (xC (.int 10)) (xC (.int 18)))) (sAsg (xName 2) (gSubL 0 (xC (.int 2)))) (sAsg (xBin dPlus (xBin dMod (xCall dInt (aCons (xBin dPlus (xBin dMul (xBin dIx (xName 0) (xC (.int 3))) (xC (.int 48271))) (xName 2)) aNil)) (xC (.int 2147483646))) (xC (.int 1))) (gSubL 0 (xC (.int 3))))))) sNil) [.ow true (tape sc i rest seed), .imm (.int lim), .un, .un] = some (.nx [.ow true (tape sc i2 rest2 seed2), .imm (.int lim), s2, .un]) →
      ∃ t' d, TapeOk t' ∧ d < lim ∧ m__law_pick [.ow true (tape sc i rest seed), .imm (.int lim)] = some (.int (d : Nat), [.ow true t', .imm (.int lim)]) := fun i2 rest2 seed2 s2 h3 e => by
    obtain ⟨t', d, ρ', a1, a2, a3⟩ := pick2_ok sc i2 rest2 seed2 lim s2 h3 h1 h2
    refine fin (ρ' := ρ') a1 a2 ?_
    rw [start]
    exact (sSeq_nx e).trans a3
  by_cases hr : rest = 0
  · subst hr
    by_cases hi : i < sc.length
    · have hd : decide ((i : Int) < (sc.length : Nat)) = true := decide_eq_true (by omega)
      have hx : dIx (.frz (sc.map .int)) (.int i) = some (.int sc[i]) := by
        show atI (sc.map D.int) (i : Int) = _
        have e : ∀ (xs : List D) (j : Nat), atI xs (j : Int) = xs[j]? := fun xs j => atI_nat' xs j
        rw [e, List.getElem?_map, List.getElem?_eq_getElem hi]
        rfl
      have ha : dAbs [.int sc[i]] = some (.int (sc[i].natAbs : Nat)) := by
        simp only [dAbs]
        congr 2
        split <;> omega
      generalize sc[i].natAbs = cell at ha
      by_cases hb : 1000000000000000000 ≤ cell
      · have hg : decide ((1000000000000000000 : Int) ≤ (cell : Nat)) = true := decide_eq_true (by omega)
        refine go (i + 1) cell seed (.imm (.int cell)) hs ?_
        have e1 : (i : Int) + 1 = ((i + 1 : Nat) : Int) := by omega
        unfold tape
        simp only [sSeq, sSet, sSetN, sAsg, sDrop, sRet, sRetN, sIf, sPar, sAug, sAugL, sNil, xName, xC, xBin, xBinN, xBinT, xCall, xCallN, xNew, xTup, xLst, xLstRg, xTupRg, xRg1, xRg2, xTru, xNot, xAndT, xOrT, xAnd, xOr, xNotV, rdB, xIf, xNeg, xMet, xMet0, xMut, xMut0, aNil, aCons, vals, rdAll, R.rd, oNone, oSome, xSlL, xSlT, gSet, gsNil, gsCons, gTupD, gLstD, gSubL, freeAt, isOw, kYes, List.getElem?_cons_zero, List.getElem?_cons_succ, List.set_cons_zero, List.set_cons_succ, Option.bind_some, Option.bind_none, if_true, if_false, Bool.false_eq_true, reduceIte, List.length_cons, List.length_nil, Bool.and_true, Bool.true_and, Bool.and_self, Bool.not_true, Bool.not_false, false_and, and_false, true_and, and_true, Option.isSome_some, tp0, tp1, tp2, dEq_int, len_frz, dLtI, hd, hx, ha, dPlusI, e1, dPow_1018, dGeI, hg, Nat.reduceAdd, ix4_1, ix4_2, beq_self_eq_true, show (((0 : Nat) : Int) == 0) = true from rfl]
      · have hg : decide ((1000000000000000000 : Int) ≤ (cell : Nat)) = false := decide_eq_false (by omega)
        have e1 : (i : Int) + 1 = ((i + 1 : Nat) : Int) := by omega
        have f1 : dMul (.int seed) (.int 48271) = some (.int (seed * 48271 : Nat)) := by rw [dMul_ok (okMulS (by omega))]; rfl
        have f2 : ((seed * 48271 : Nat) : Int) + (cell : Nat) = ((seed * 48271 + cell : Nat) : Int) := by omega
        have f3 : dMod (.int (seed * 48271 + cell : Nat)) (.int 2147483646) = some (.int ((seed * 48271 + cell) % 2147483646 : Nat)) := by rw [dMod_ok (by omega)]; rfl
        have f4 : (((seed * 48271 + cell) % 2147483646 : Nat) : Int) + 1 = (((seed * 48271 + cell) % 2147483646 + 1 : Nat) : Int) := by omega
        refine go (i + 1) 0 ((seed * 48271 + cell) % 2147483646 + 1) (.imm (.int cell)) (by omega) ?_
        unfold tape
        simp only [sSeq, sSet, sSetN, sAsg, sDrop, sRet, sRetN, sIf, sPar, sAug, sAugL, sNil, xName, xC, xBin, xBinN, xBinT, xCall, xCallN, xNew, xTup, xLst, xLstRg, xTupRg, xRg1, xRg2, xTru, xNot, xAndT, xOrT, xAnd, xOr, xNotV, rdB, xIf, xNeg, xMet, xMet0, xMut, xMut0, aNil, aCons, vals, rdAll, R.rd, oNone, oSome, xSlL, xSlT, gSet, gsNil, gsCons, gTupD, gLstD, gSubL, freeAt, isOw, kYes, List.getElem?_cons_zero, List.getElem?_cons_succ, List.set_cons_zero, List.set_cons_succ, Option.bind_some, Option.bind_none, if_true, if_false, Bool.false_eq_true, reduceIte, List.length_cons, List.length_nil, Bool.and_true, Bool.true_and, Bool.and_self, Bool.not_true, Bool.not_false, false_and, and_false, true_and, and_true, Option.isSome_some, tp0, tp1, tp2, tp3, dEq_int, len_frz, dLtI, hd, hx, ha, dPlusI, e1, dPow_1018, dGeI, hg, f1, f2, dInt, f3, f4, Nat.reduceAdd, ix4_1, ix4_3, show (((0 : Nat) : Int) == 0) = true from rfl]
    · have hd : decide ((i : Int) < (sc.length : Nat)) = false := decide_eq_false (by omega)
      refine go i 0 seed .un hs ?_
      unfold tape
      simp only [sSeq, sSet, sSetN, sAsg, sDrop, sRet, sRetN, sIf, sPar, sAug, sAugL, sNil, xName, xC, xBin, xBinN, xBinT, xCall, xCallN, xNew, xTup, xLst, xLstRg, xTupRg, xRg1, xRg2, xTru, xNot, xAndT, xOrT, xAnd, xOr, xNotV, rdB, xIf, xNeg, xMet, xMet0, xMut, xMut0, aNil, aCons, vals, rdAll, R.rd, oNone, oSome, xSlL, xSlT, gSet, gsNil, gsCons, gTupD, gLstD, gSubL, freeAt, isOw, kYes, List.getElem?_cons_zero, List.getElem?_cons_succ, List.set_cons_zero, List.set_cons_succ, Option.bind_some, Option.bind_none, if_true, if_false, Bool.false_eq_true, reduceIte, List.length_cons, List.length_nil, Bool.and_true, Bool.true_and, Bool.and_self, Bool.not_true, Bool.not_false, false_and, and_false, true_and, and_true, Option.isSome_some, tp0, tp1, tp2, dEq_int, len_frz, dLtI, hd, show (((0 : Nat) : Int) == 0) = true from rfl]
  · have hz : ((rest : Int) == 0) = false := by rw [beq_eq_false_iff_ne]; omega
    refine go i rest seed .un hs ?_
    unfold tape
    simp only [sSeq, sSet, sSetN, sAsg, sDrop, sRet, sRetN, sIf, sPar, sAug, sAugL, sNil, xName, xC, xBin, xBinN, xBinT, xCall, xCallN, xNew, xTup, xLst, xLstRg, xTupRg, xRg1, xRg2, xTru, xNot, xAndT, xOrT, xAnd, xOr, xNotV, rdB, xIf, xNeg, xMet, xMet0, xMut, xMut0, aNil, aCons, vals, rdAll, R.rd, oNone, oSome, xSlL, xSlT, gSet, gsNil, gsCons, gTupD, gLstD, gSubL, freeAt, isOw, kYes, List.getElem?_cons_zero, List.getElem?_cons_succ, List.set_cons_zero, List.set_cons_succ, Option.bind_some, Option.bind_none, if_true, if_false, Bool.false_eq_true, reduceIte, List.length_cons, List.length_nil, Bool.and_true, Bool.true_and, Bool.and_self, Bool.not_true, Bool.not_false, false_and, and_false, true_and, and_true, Option.isSome_some, tp2, dEq_int, hz]
end K59

set_option maxRecDepth 100000
namespace K59
open PySem PySem.Spec PyProof.Rows L2 DL
/-! ### what the law draws -/
theorem sFor_exS {α σ : Type} {tmp : List Nat} {fi : FI} {g : FG} {bd : FS} {ρ : Ev} (enc : α → D) (R : σ → Ev) (P : List α → σ → Prop) (xs : List α) (s0 : σ) (hfi : fi ρ = some ((xs.map enc, none), R s0)) (h0 : P xs s0)
    (h : ∀ x xs s, P (x :: xs) s → ∃ s', P xs s' ∧ turnF tmp g bd (enc x) (R s) = some (R s')) :
    ∃ s', P [] s' ∧ sFor tmp fi g bd ρ = some (.nx (R s')) := by
  obtain ⟨s', h1, h2⟩ := forL_ex (tmp := tmp) (g := g) (bd := bd) (all := xs.map enc) enc R P h xs s0 h0
  refine ⟨s', h1, ?_⟩
  unfold sFor
  rw [hfi]
  exact h2
theorem map_pairs {E : List (Nat × Nat)} : E.map pD = edD E.length fun k => E.getD k (0, 0) := by
  apply List.ext_getElem?
  intro j
  unfold edD
  by_cases hj : j < E.length
  · rw [tn_get _ hj, List.getElem?_map, List.getElem?_eq_getElem hj]
    dsimp only
    rw [List.getD_eq_getElem?_getD, List.getElem?_eq_getElem hj]
    rfl
  · rw [List.getElem?_eq_none (by simp; omega), List.getElem?_eq_none (by rw [tn_len]; omega)]
def RG (t a b : D) (n : Nat) (E : List (Nat × Nat)) : Ev := [.ow true t, .imm a, .imm b, .imm (.int n), .ow false (.lst (E.map pD)), .un, .un, .un]
theorem BG (a b : D) (n : Nat) (h1 : 1 ≤ n) (hn : n ≤ 1000) (k : Nat) (t : D) (E : List (Nat × Nat)) (ht : TapeOk t) (hE : E.length ≤ 1000) :
    ∃ t' p, TapeOk t' ∧ p.1 ≤ p.2 ∧ p.2 < n ∧ turnF [5, 6, 7] (gSet 5) B__law_graph_1 (nD k) (RG t a b n E) = some (RG t' a b n (E ++ [p])) := by
  obtain ⟨t1, x, ht1, hx, e1⟩ := pick_ok ht n h1 (by omega)
  obtain ⟨t2, y, ht2, hy, e2⟩ := pick_ok ht1 n h1 (by omega)
  have g2 : Grd (0 + 1 + 1 ≤ sizeLine) = True := grdN (by omega)
  have g3 : Grd ((E.map pD).length < sizeLine) = True := grdS (by simp; omega)
  have ap : ∀ u v : Nat, (E ++ [(min u v, max u v)]).map pD = E.map pD ++ [.tup [.int (min u v : Nat), .int (max u v : Nat)]] := fun u v => by simp [pD]
  by_cases hxy : x = y
  · obtain ⟨t3, z, ht3, hz, e3⟩ := pick_ok ht2 3 (by omega) (by omega)
    have e3 : m__law_pick [.ow true t2, .imm (.int 3)] = some (.int (z : Nat), [.ow true t3, .imm (.int 3)]) := e3
    have b1 : ((x : Int) == (y : Nat)) = true := by rw [beq_iff_eq]; omega
    by_cases hz0 : 0 < z
    · have b2 : decide ((0 : Int) < (z : Nat)) = true := decide_eq_true (by omega)
      have md : dMod (.int ((x : Int) + 1)) (.int n) = some (.int ((x + 1) % n : Nat)) := by
        rw [dMod_ok (by omega)]
        rfl
      have hmd : (x + 1) % n < n := Nat.mod_lt _ (by omega)
      generalize (x + 1) % n = w at md hmd
      refine ⟨t3, (min x w, max x w), ht3, by simp only; omega, by simp only; omega, ?_⟩
      have ap := ap x w
      unfold RG
      generalize (E ++ [(min x w, max x w)]).map pD = ys at ap ⊢
      generalize E.map pD = xs at g3 ap ⊢
      unfold turnF B__law_graph_1
      simp only [sSeq, sSet, sSetN, sAsg, sDrop, sRet, sRetN, sIf, sPar, sAug, sAugL, sNil, xName, xC, xBin, xBinN, xBinT, xCall, xCallN, xNew, xTup, xLst, xLstRg, xTupRg, xRg1, xRg2, xTru, xNot, xAndT, xOrT, xAnd, xOr, xNotV, rdB, xIf, xNeg, xMet, xMet0, xMut, xMut0, aNil, aCons, vals, rdAll, DL.R.rd, oNone, oSome, xSlL, xSlT, gSet, gsNil, gsCons, gTupD, gLstD, gSubL, freeAt, isOw, kYes, List.getElem?_cons_zero, List.getElem?_cons_succ, List.set_cons_zero, List.set_cons_succ, Option.bind_some, Option.bind_none, if_true, if_false, Bool.false_eq_true, reduceIte, List.length_cons, List.length_nil, Bool.and_true, Bool.true_and, Bool.and_self, Bool.not_true, Bool.not_false, false_and, and_false, true_and, and_true, Option.isSome_some, xCallV, xCallVN, xCallB, xCh2, xCh3, isB, xDct1, xMake, sFldD, sPutD, List.map_cons, List.map_nil, nD, e1, e2, dEq_int, b1, e3, dGt_int, b2, dPlus_int, dInt, md, dMin2_nat, dMax2_nat, g2, gApp, g3]
      simp only [sSeq, sSet, sSetN, sAsg, sDrop, sRet, sRetN, sIf, sPar, sAug, sAugL, sNil, xName, xC, xBin, xBinN, xBinT, xCall, xCallN, xNew, xTup, xLst, xLstRg, xTupRg, xRg1, xRg2, xTru, xNot, xAndT, xOrT, xAnd, xOr, xNotV, rdB, xIf, xNeg, xMet, xMet0, xMut, xMut0, aNil, aCons, vals, rdAll, DL.R.rd, oNone, oSome, xSlL, xSlT, gSet, gsNil, gsCons, gTupD, gLstD, gSubL, freeAt, isOw, kYes, List.getElem?_cons_zero, List.getElem?_cons_succ, List.set_cons_zero, List.set_cons_succ, Option.bind_some, Option.bind_none, if_true, if_false, Bool.false_eq_true, reduceIte, List.length_cons, List.length_nil, Bool.and_true, Bool.true_and, Bool.and_self, Bool.not_true, Bool.not_false, false_and, and_false, true_and, and_true, Option.isSome_some, xCallV, xCallVN, xCallB, xCh2, xCh3, isB, xDct1, xMake, sFldD, sPutD, List.map_cons, List.map_nil, wps, wp1, List.foldl_cons, List.foldl_nil, ap]
    · have b2 : decide ((0 : Int) < (z : Nat)) = false := decide_eq_false (by omega)
      refine ⟨t3, (min x y, max x y), ht3, by simp only; omega, by simp only; omega, ?_⟩
      have ap := ap x y
      unfold RG
      generalize (E ++ [(min x y, max x y)]).map pD = ys at ap ⊢
      generalize E.map pD = xs at g3 ap ⊢
      unfold turnF B__law_graph_1
      simp only [sSeq, sSet, sSetN, sAsg, sDrop, sRet, sRetN, sIf, sPar, sAug, sAugL, sNil, xName, xC, xBin, xBinN, xBinT, xCall, xCallN, xNew, xTup, xLst, xLstRg, xTupRg, xRg1, xRg2, xTru, xNot, xAndT, xOrT, xAnd, xOr, xNotV, rdB, xIf, xNeg, xMet, xMet0, xMut, xMut0, aNil, aCons, vals, rdAll, DL.R.rd, oNone, oSome, xSlL, xSlT, gSet, gsNil, gsCons, gTupD, gLstD, gSubL, freeAt, isOw, kYes, List.getElem?_cons_zero, List.getElem?_cons_succ, List.set_cons_zero, List.set_cons_succ, Option.bind_some, Option.bind_none, if_true, if_false, Bool.false_eq_true, reduceIte, List.length_cons, List.length_nil, Bool.and_true, Bool.true_and, Bool.and_self, Bool.not_true, Bool.not_false, false_and, and_false, true_and, and_true, Option.isSome_some, xCallV, xCallVN, xCallB, xCh2, xCh3, isB, xDct1, xMake, sFldD, sPutD, List.map_cons, List.map_nil, nD, e1, e2, dEq_int, b1, e3, dGt_int, b2, dPlus_int, dInt, dMin2_nat, dMax2_nat, g2, gApp, g3]
      simp only [sSeq, sSet, sSetN, sAsg, sDrop, sRet, sRetN, sIf, sPar, sAug, sAugL, sNil, xName, xC, xBin, xBinN, xBinT, xCall, xCallN, xNew, xTup, xLst, xLstRg, xTupRg, xRg1, xRg2, xTru, xNot, xAndT, xOrT, xAnd, xOr, xNotV, rdB, xIf, xNeg, xMet, xMet0, xMut, xMut0, aNil, aCons, vals, rdAll, DL.R.rd, oNone, oSome, xSlL, xSlT, gSet, gsNil, gsCons, gTupD, gLstD, gSubL, freeAt, isOw, kYes, List.getElem?_cons_zero, List.getElem?_cons_succ, List.set_cons_zero, List.set_cons_succ, Option.bind_some, Option.bind_none, if_true, if_false, Bool.false_eq_true, reduceIte, List.length_cons, List.length_nil, Bool.and_true, Bool.true_and, Bool.and_self, Bool.not_true, Bool.not_false, false_and, and_false, true_and, and_true, Option.isSome_some, xCallV, xCallVN, xCallB, xCh2, xCh3, isB, xDct1, xMake, sFldD, sPutD, List.map_cons, List.map_nil, wps, wp1, List.foldl_cons, List.foldl_nil, ap]
  · have b1 : ((x : Int) == (y : Nat)) = false := by rw [beq_eq_false_iff_ne]; omega
    refine ⟨t2, (min x y, max x y), ht2, by simp only; omega, by simp only; omega, ?_⟩
    have ap := ap x y
    unfold RG
    generalize (E ++ [(min x y, max x y)]).map pD = ys at ap ⊢
    generalize E.map pD = xs at g3 ap ⊢
    unfold turnF B__law_graph_1
    simp only [sSeq, sSet, sSetN, sAsg, sDrop, sRet, sRetN, sIf, sPar, sAug, sAugL, sNil, xName, xC, xBin, xBinN, xBinT, xCall, xCallN, xNew, xTup, xLst, xLstRg, xTupRg, xRg1, xRg2, xTru, xNot, xAndT, xOrT, xAnd, xOr, xNotV, rdB, xIf, xNeg, xMet, xMet0, xMut, xMut0, aNil, aCons, vals, rdAll, DL.R.rd, oNone, oSome, xSlL, xSlT, gSet, gsNil, gsCons, gTupD, gLstD, gSubL, freeAt, isOw, kYes, List.getElem?_cons_zero, List.getElem?_cons_succ, List.set_cons_zero, List.set_cons_succ, Option.bind_some, Option.bind_none, if_true, if_false, Bool.false_eq_true, reduceIte, List.length_cons, List.length_nil, Bool.and_true, Bool.true_and, Bool.and_self, Bool.not_true, Bool.not_false, false_and, and_false, true_and, and_true, Option.isSome_some, xCallV, xCallVN, xCallB, xCh2, xCh3, isB, xDct1, xMake, sFldD, sPutD, List.map_cons, List.map_nil, nD, e1, e2, dEq_int, b1, dPlus_int, dInt, dMin2_nat, dMax2_nat, g2, gApp, g3]
    simp only [sSeq, sSet, sSetN, sAsg, sDrop, sRet, sRetN, sIf, sPar, sAug, sAugL, sNil, xName, xC, xBin, xBinN, xBinT, xCall, xCallN, xNew, xTup, xLst, xLstRg, xTupRg, xRg1, xRg2, xTru, xNot, xAndT, xOrT, xAnd, xOr, xNotV, rdB, xIf, xNeg, xMet, xMet0, xMut, xMut0, aNil, aCons, vals, rdAll, DL.R.rd, oNone, oSome, xSlL, xSlT, gSet, gsNil, gsCons, gTupD, gLstD, gSubL, freeAt, isOw, kYes, List.getElem?_cons_zero, List.getElem?_cons_succ, List.set_cons_zero, List.set_cons_succ, Option.bind_some, Option.bind_none, if_true, if_false, Bool.false_eq_true, reduceIte, List.length_cons, List.length_nil, Bool.and_true, Bool.true_and, Bool.and_self, Bool.not_true, Bool.not_false, false_and, and_false, true_and, and_true, Option.isSome_some, xCallV, xCallVN, xCallB, xCh2, xCh3, isB, xDct1, xMake, sFldD, sPutD, List.map_cons, List.map_nil, wps, wp1, List.foldl_cons, List.foldl_nil, ap]
theorem graph_ok {t : D} (ht : TapeOk t) (most many : Nat) (h1 : 1 ≤ most) (h2 : most ≤ 39) (h3 : many ≤ 99) :
    ∃ t' n m e, TapeOk t' ∧ 1 ≤ n ∧ n ≤ most ∧ m ≤ many ∧ GrOk n m e ∧ m__law_graph [.ow true t, .imm (.int most), .imm (.int many)] = some (.tup [.int (n : Nat), .tup (edD m e)], [.ow true t', .imm (.int most), .imm (.int many)]) := by
  obtain ⟨t1, d1, ht1, hd1, e1⟩ := pick_ok ht most h1 (by omega)
  obtain ⟨t2, d2, ht2, hd2, e2⟩ := pick_ok ht1 (many + 1) (by omega) (by omega)
  have n1 : (1 : Int) + (d1 : Nat) = ((d1 + 1 : Nat) : Int) := by omega
  have n2 : (many : Int) + 1 = ((many + 1 : Nat) : Int) := by omega
  have hfi : iRg1 (xCallB m__law_pick (aCons (xName 0) (aCons (xBin dPlus (xName 2) (xC (.int 1))) aNil))) (RG t1 (.int most) (.int many) (d1 + 1) []) = some (((List.range d2).map nD, none), RG t2 (.int most) (.int many) (d1 + 1) []) := by
    refine iRg1_nat ?_ (by omega)
    unfold RG
    simp only [sSeq, sSet, sSetN, sAsg, sDrop, sRet, sRetN, sIf, sPar, sAug, sAugL, sNil, xName, xC, xBin, xBinN, xBinT, xCall, xCallN, xNew, xTup, xLst, xLstRg, xTupRg, xRg1, xRg2, xTru, xNot, xAndT, xOrT, xAnd, xOr, xNotV, rdB, xIf, xNeg, xMet, xMet0, xMut, xMut0, aNil, aCons, vals, rdAll, DL.R.rd, oNone, oSome, xSlL, xSlT, gSet, gsNil, gsCons, gTupD, gLstD, gSubL, freeAt, isOw, kYes, List.getElem?_cons_zero, List.getElem?_cons_succ, List.set_cons_zero, List.set_cons_succ, Option.bind_some, Option.bind_none, if_true, if_false, Bool.false_eq_true, reduceIte, List.length_cons, List.length_nil, Bool.and_true, Bool.true_and, Bool.and_self, Bool.not_true, Bool.not_false, false_and, and_false, true_and, and_true, Option.isSome_some, xCallV, xCallVN, xCallB, xCh2, xCh3, isB, xDct1, xMake, sFldD, sPutD, List.map_cons, List.map_nil, dPlus_int, n2, e2]
  obtain ⟨⟨t3, E⟩, ⟨p1, p2, p3⟩, run⟩ := sFor_exS (tmp := [5, 6, 7]) (g := gSet 5) (bd := B__law_graph_1) nD (fun s : D × List (Nat × Nat) => RG s.1 (.int most) (.int many) (d1 + 1) s.2) (fun xs s => TapeOk s.1 ∧ s.2.length + xs.length ≤ many ∧ ∀ p ∈ s.2, p.1 ≤ p.2 ∧ p.2 < d1 + 1) (List.range d2) (t2, []) hfi ⟨ht2, by simp; omega, fun p hp => by cases hp⟩ (fun k xs s ⟨a, b, c⟩ => by
    rw [List.length_cons] at b
    obtain ⟨t', p, q1, q2, q3, q4⟩ := BG (.int most) (.int many) (d1 + 1) (by omega) (by omega) k s.1 s.2 a (by omega)
    refine ⟨(t', s.2 ++ [p]), ⟨q1, by simp; omega, fun q hq => ?_⟩, q4⟩
    rcases List.mem_append.mp hq with hq | hq
    · exact c q hq
    · rw [List.mem_singleton.mp hq]; exact ⟨q2, q3⟩)
  dsimp only at p1 p2 p3 run
  have g0 : Grd (0 ≤ sizeLine) = True := grdN (by omega)
  have g2 : Grd (0 + 1 + 1 ≤ sizeLine) = True := grdN (by omega)
  refine ⟨t3, d1 + 1, E.length, fun k => E.getD k (0, 0), p1, by omega, by omega, by simpa using p2, fun k hk => ?_, ?_⟩
  · dsimp only
    rw [List.getD_eq_getElem?_getD, List.getElem?_eq_getElem hk]
    exact p3 _ (List.getElem_mem hk)
  · rw [← map_pairs]
    refine fnD_rt (b := false) (ρ' := RG t3 (.int most) (.int many) (d1 + 1) E) ?_ rfl (.inl rfl) rfl
    show b__law_graph [.ow true t, .imm (.int most), .imm (.int many), .un, .un, .un, .un, .un] = _
    unfold b__law_graph
    refine step [.ow true t1, .imm (.int most), .imm (.int many), .imm (.int (d1 + 1 : Nat)), .un, .un, .un, .un] ?_ (step (RG t1 (.int most) (.int many) (d1 + 1) []) ?_ (step _ run ?_))
    · simp only [sSeq, sSet, sSetN, sAsg, sDrop, sRet, sRetN, sIf, sPar, sAug, sAugL, sNil, xName, xC, xBin, xBinN, xBinT, xCall, xCallN, xNew, xTup, xLst, xLstRg, xTupRg, xRg1, xRg2, xTru, xNot, xAndT, xOrT, xAnd, xOr, xNotV, rdB, xIf, xNeg, xMet, xMet0, xMut, xMut0, aNil, aCons, vals, rdAll, DL.R.rd, oNone, oSome, xSlL, xSlT, gSet, gsNil, gsCons, gTupD, gLstD, gSubL, freeAt, isOw, kYes, List.getElem?_cons_zero, List.getElem?_cons_succ, List.set_cons_zero, List.set_cons_succ, Option.bind_some, Option.bind_none, if_true, if_false, Bool.false_eq_true, reduceIte, List.length_cons, List.length_nil, Bool.and_true, Bool.true_and, Bool.and_self, Bool.not_true, Bool.not_false, false_and, and_false, true_and, and_true, Option.isSome_some, xCallV, xCallVN, xCallB, xCh2, xCh3, isB, xDct1, xMake, sFldD, sPutD, List.map_cons, List.map_nil, e1, dPlus_int, n1]
    · unfold RG
      simp only [sSeq, sSet, sSetN, sAsg, sDrop, sRet, sRetN, sIf, sPar, sAug, sAugL, sNil, xName, xC, xBin, xBinN, xBinT, xCall, xCallN, xNew, xTup, xLst, xLstRg, xTupRg, xRg1, xRg2, xTru, xNot, xAndT, xOrT, xAnd, xOr, xNotV, rdB, xIf, xNeg, xMet, xMet0, xMut, xMut0, aNil, aCons, vals, rdAll, DL.R.rd, oNone, oSome, xSlL, xSlT, gSet, gsNil, gsCons, gTupD, gLstD, gSubL, freeAt, isOw, kYes, List.getElem?_cons_zero, List.getElem?_cons_succ, List.set_cons_zero, List.set_cons_succ, Option.bind_some, Option.bind_none, if_true, if_false, Bool.false_eq_true, reduceIte, List.length_cons, List.length_nil, Bool.and_true, Bool.true_and, Bool.and_self, Bool.not_true, Bool.not_false, false_and, and_false, true_and, and_true, Option.isSome_some, xCallV, xCallVN, xCallB, xCh2, xCh3, isB, xDct1, xMake, sFldD, sPutD, List.map_cons, List.map_nil, g0]
    · unfold RG
      generalize E.map pD = xs
      simp only [sSeq, sSet, sSetN, sAsg, sDrop, sRet, sRetN, sIf, sPar, sAug, sAugL, sNil, xName, xC, xBin, xBinN, xBinT, xCall, xCallN, xNew, xTup, xLst, xLstRg, xTupRg, xRg1, xRg2, xTru, xNot, xAndT, xOrT, xAnd, xOr, xNotV, rdB, xIf, xNeg, xMet, xMet0, xMut, xMut0, aNil, aCons, vals, rdAll, DL.R.rd, oNone, oSome, xSlL, xSlT, gSet, gsNil, gsCons, gTupD, gLstD, gSubL, freeAt, isOw, kYes, List.getElem?_cons_zero, List.getElem?_cons_succ, List.set_cons_zero, List.set_cons_succ, Option.bind_some, Option.bind_none, if_true, if_false, Bool.false_eq_true, reduceIte, List.length_cons, List.length_nil, Bool.and_true, Bool.true_and, Bool.and_self, Bool.not_true, Bool.not_false, false_and, and_false, true_and, and_true, Option.isSome_some, xCallV, xCallVN, xCallB, xCh2, xCh3, isB, xDct1, xMake, sFldD, sPutD, List.map_cons, List.map_nil, dTupOf, g2]
theorem drawn_ok {t : D} (ht : TapeOk t) (m : Nat) (e : Nat → Nat × Nat) (hm : m ≤ 1000) :
    ∃ t' h, TapeOk t' ∧ HdOk m e h ∧ m__law_drawn [.ow true t, .imm (.tup (edD m e))] = some (.tup (hdD m h), [.ow true t', .imm (.tup (edD m e))]) := by
  have hfi : iVal (xName 1) [.ow true t, .imm (.tup (edD m e)), .un] = some (((List.range m).map fun k => pD (e k), none), [.ow true t, .imm (.tup (edD m e)), .un]) := rfl
  obtain ⟨t', bs, i1, i2, i3, i4⟩ := xLc_exR (vs := [2]) (g := gSet 2) (k := kYes) (f := E__law_drawn_1) (fun k => pD (e k)) nD (fun t => [.ow true t, .imm (.tup (edD m e)), .un]) TapeOk (fun k b => b = (e k).1 ∨ b = (e k).2) (List.range m) t hfi rfl (by rw [List.length_range]; have := sizeLine_eq; omega) (fun _ => rfl) (fun _ _ => rfl) ht (fun k hk s hs => by
    obtain ⟨t1, d, ht1, hd, e1⟩ := pick_ok hs 2 (by omega) (by omega)
    have e1 : m__law_pick [.ow true s, .imm (.int 2)] = some (.int (d : Nat), [.ow true t1, .imm (.int 2)]) := e1
    by_cases h0 : d = 0
    · subst h0
      refine ⟨t1, (e k).1, ht1, .inl rfl, ?_⟩
      have i0 : dIx (pD (e k)) (.int (0 : Nat)) = some (.int (e k).1) := rfl
      generalize pD (e k) = pd at i0
      unfold turnC E__law_drawn_1
      simp only [sSeq, sSet, sSetN, sAsg, sDrop, sRet, sRetN, sIf, sPar, sAug, sAugL, sNil, xName, xC, xBin, xBinN, xBinT, xCall, xCallN, xNew, xTup, xLst, xLstRg, xTupRg, xRg1, xRg2, xTru, xNot, xAndT, xOrT, xAnd, xOr, xNotV, rdB, xIf, xNeg, xMet, xMet0, xMut, xMut0, aNil, aCons, vals, rdAll, DL.R.rd, oNone, oSome, xSlL, xSlT, gSet, gsNil, gsCons, gTupD, gLstD, gSubL, freeAt, isOw, kYes, List.getElem?_cons_zero, List.getElem?_cons_succ, List.set_cons_zero, List.set_cons_succ, Option.bind_some, Option.bind_none, if_true, if_false, Bool.false_eq_true, reduceIte, List.length_cons, List.length_nil, Bool.and_true, Bool.true_and, Bool.and_self, Bool.not_true, Bool.not_false, false_and, and_false, true_and, and_true, Option.isSome_some, xCallV, xCallVN, xCallB, xCh2, xCh3, isB, xDct1, xMake, sFldD, sPutD, List.map_cons, List.map_nil, e1, i0, wipeE, nD]
    · have h1 : d = 1 := by omega
      subst h1
      refine ⟨t1, (e k).2, ht1, .inr rfl, ?_⟩
      have i0 : dIx (pD (e k)) (.int (1 : Nat)) = some (.int (e k).2) := rfl
      generalize pD (e k) = pd at i0
      unfold turnC E__law_drawn_1
      simp only [sSeq, sSet, sSetN, sAsg, sDrop, sRet, sRetN, sIf, sPar, sAug, sAugL, sNil, xName, xC, xBin, xBinN, xBinT, xCall, xCallN, xNew, xTup, xLst, xLstRg, xTupRg, xRg1, xRg2, xTru, xNot, xAndT, xOrT, xAnd, xOr, xNotV, rdB, xIf, xNeg, xMet, xMet0, xMut, xMut0, aNil, aCons, vals, rdAll, DL.R.rd, oNone, oSome, xSlL, xSlT, gSet, gsNil, gsCons, gTupD, gLstD, gSubL, freeAt, isOw, kYes, List.getElem?_cons_zero, List.getElem?_cons_succ, List.set_cons_zero, List.set_cons_succ, Option.bind_some, Option.bind_none, if_true, if_false, Bool.false_eq_true, reduceIte, List.length_cons, List.length_nil, Bool.and_true, Bool.true_and, Bool.and_self, Bool.not_true, Bool.not_false, false_and, and_false, true_and, and_true, Option.isSome_some, xCallV, xCallVN, xCallB, xCh2, xCh3, isB, xDct1, xMake, sFldD, sPutD, List.map_cons, List.map_nil, e1, i0, wipeE, nD])
  rw [List.length_range] at i3
  refine ⟨t', fun k => bs.getD k 0, i1, fun k hk => ?_, ?_⟩
  · have hk2 : k < bs.length := by omega
    dsimp only
    rw [List.getD_eq_getElem?_getD, List.getElem?_eq_getElem hk2]
    refine i2 (k, bs[k]) (List.mem_of_getElem? (i := k) ?_)
    rw [List.getElem?_zip_eq_some]
    exact ⟨by simp [hk], List.getElem?_eq_getElem hk2⟩
  · have e1 : bs.map nD = hdD m fun k => bs.getD k 0 := by rw [map_tn, i3]; rfl
    rw [e1] at i4
    refine fnD_rt (b := false) (ρ' := [.ow true t', .imm (.tup (edD m e)), .un]) ?_ rfl (.inl rfl) rfl
    show b__law_drawn [.ow true t, .imm (.tup (edD m e)), .un] = _
    unfold b__law_drawn X__law_drawn_1
    simp only [sSeq, sSet, sSetN, sAsg, sDrop, sRet, sRetN, sIf, sPar, sAug, sAugL, sNil, xName, xC, xBin, xBinN, xBinT, xCall, xCallN, xNew, xTup, xLst, xLstRg, xTupRg, xRg1, xRg2, xTru, xNot, xAndT, xOrT, xAnd, xOr, xNotV, rdB, xIf, xNeg, xMet, xMet0, xMut, xMut0, aNil, aCons, vals, rdAll, DL.R.rd, oNone, oSome, xSlL, xSlT, gSet, gsNil, gsCons, gTupD, gLstD, gSubL, freeAt, isOw, kYes, List.getElem?_cons_zero, List.getElem?_cons_succ, List.set_cons_zero, List.set_cons_succ, Option.bind_some, Option.bind_none, if_true, if_false, Bool.false_eq_true, reduceIte, List.length_cons, List.length_nil, Bool.and_true, Bool.true_and, Bool.and_self, Bool.not_true, Bool.not_false, false_and, and_false, true_and, and_true, Option.isSome_some, xCallV, xCallVN, xCallB, xCh2, xCh3, isB, xDct1, xMake, sFldD, sPutD, List.map_cons, List.map_nil, i4, dTupOf]
/-! a row with a few things moved -/
def RB (t : D) (n : Nat) (r : Nat → Int) : Ev := [.ow true t, .ow false (.lst (tn n fun v => .int (r v))), .un, .un, .un]
theorem set_row (n : Nat) (r : Nat → Int) (i : Nat) (x : Int) : (tn n fun v => D.int (r v)).set i (.int x) = tn n fun v => .int (if v = i then x else r v) := by
  rw [tn_set]
  refine tn_congr fun v _ => ?_
  by_cases c : v = i
  · simp only [if_pos c]
  · simp only [if_neg c]
theorem bent_ok {t : D} (ht : TapeOk t) (n : Nat) (h1 : 1 ≤ n) (hn : n ≤ 1000) (r : Nat → Int) (hr : ∀ v, v < n → 0 ≤ r v) :
    ∃ t' r', TapeOk t' ∧ (∀ v, v < n → -3 ≤ r' v) ∧ m__law_bent [.ow true t, .imm (rwD n r)] = some (rwD n r', [.ow true t', .imm (rwD n r)]) := by
  obtain ⟨t1, d1, ht1, hd1, e1⟩ := pick_ok ht 3 (by omega) (by omega)
  have e1 : m__law_pick [.ow true t, .imm (.int 3)] = some (.int (d1 : Nat), [.ow true t1, .imm (.int 3)]) := e1
  have hfi : iRg1 (xCallB m__law_pick (aCons (xName 0) (aCons (xC (.int 3)) aNil))) (RB t n r) = some (((List.range d1).map nD, none), RB t1 n r) := by
    refine iRg1_nat ?_ (by omega)
    unfold RB
    simp only [sSeq, sSet, sSetN, sAsg, sDrop, sRet, sRetN, sIf, sPar, sAug, sAugL, sNil, xName, xC, xBin, xBinN, xBinT, xCall, xCallN, xNew, xTup, xLst, xLstRg, xTupRg, xRg1, xRg2, xTru, xNot, xAndT, xOrT, xAnd, xOr, xNotV, rdB, xIf, xNeg, xMet, xMet0, xMut, xMut0, aNil, aCons, vals, rdAll, DL.R.rd, oNone, oSome, xSlL, xSlT, gSet, gsNil, gsCons, gTupD, gLstD, gSubL, freeAt, isOw, kYes, List.getElem?_cons_zero, List.getElem?_cons_succ, List.set_cons_zero, List.set_cons_succ, Option.bind_some, Option.bind_none, if_true, if_false, Bool.false_eq_true, reduceIte, List.length_cons, List.length_nil, Bool.and_true, Bool.true_and, Bool.and_self, Bool.not_true, Bool.not_false, false_and, and_false, true_and, and_true, Option.isSome_some, xCallV, xCallVN, xCallB, xCh2, xCh3, isB, xDct1, xMake, sFldD, sPutD, List.map_cons, List.map_nil, e1]
  obtain ⟨⟨t2, r2⟩, ⟨p1, p2⟩, run⟩ := sFor_exS (tmp := [2, 3, 4]) (g := gSet 2) (bd := B__law_bent_1) nD (fun s : D × (Nat → Int) => RB s.1 n s.2) (fun xs s => TapeOk s.1 ∧ ∀ v, v < n → -3 + (xs.length : Int) ≤ s.2 v) (List.range d1) (t1, r) hfi ⟨ht1, fun v hv => by have := hr v hv; rw [List.length_range]; dsimp only; omega⟩ (fun k xs s ⟨a, b⟩ => by
    obtain ⟨t, r⟩ := s
    dsimp only at a b ⊢
    obtain ⟨t2, x, ht2, hx, e2⟩ := pick_ok a n h1 (by omega)
    obtain ⟨t3, y, ht3, hy, e3⟩ := pick_ok ht2 n h1 (by omega)
    refine ⟨(t3, fun v => if v = y then (if y = x then r x + 1 else r y) - 1 else if v = x then r x + 1 else r v), ⟨ht3, fun v hv => ?_⟩, ?_⟩
    · have b1 := b v hv
      have b2 := b x hx
      have b3 := b y hy
      rw [List.length_cons] at b1 b2 b3
      dsimp only
      by_cases c1 : v = y
      · rw [if_pos c1]
        split <;> omega
      · rw [if_neg c1]
        split <;> omega
    · have l1 : dLen [.lst (tn n fun v => .int (r v))] = some (.int n) := lenL _ _
      have i1 : dIx (.lst (tn n fun v => .int (r v))) (.int x) = some (.int (r x)) := ixL _ hx
      have i2 : ixN (tn n fun v => D.int (r v)).length (x : Int) = some x := ixN_nat (by rw [tn_len]; exact hx)
      have i3 := tn_get (fun v => D.int (r v)) hx
      have s1 := set_row n r x (r x + 1)
      have l2 : dLen [.lst (tn n fun v => .int (if v = x then r x + 1 else r v))] = some (.int n) := lenL _ _
      have j1 : dIx (.lst (tn n fun v => .int (if v = x then r x + 1 else r v))) (.int y) = some (.int (if y = x then r x + 1 else r y)) := ixL (fun v => D.int (if v = x then r x + 1 else r v)) hy
      have j2 : ixN (tn n fun v => D.int (if v = x then r x + 1 else r v)).length (y : Int) = some y := ixN_nat (by rw [tn_len]; exact hy)
      have j3 := tn_get (fun v => D.int (if v = x then r x + 1 else r v)) hy
      have s2 := set_row n (fun v => if v = x then r x + 1 else r v) y ((if y = x then r x + 1 else r y) - 1)
      unfold RB
      dsimp only at s2 ⊢
      generalize (tn n fun v => D.int (r v)) = c1 at l1 i1 i2 i3 s1 ⊢
      generalize (tn n fun v => D.int (if v = x then r x + 1 else r v)) = c2 at s1 l2 j1 j2 j3 s2 ⊢
      generalize (tn n fun v => D.int (if v = y then (if y = x then r x + 1 else r y) - 1 else if v = x then r x + 1 else r v)) = c3 at s2 ⊢
      unfold turnF B__law_bent_1
      simp only [sSeq, sSet, sSetN, sAsg, sDrop, sRet, sRetN, sIf, sPar, sAug, sAugL, sNil, xName, xC, xBin, xBinN, xBinT, xCall, xCallN, xNew, xTup, xLst, xLstRg, xTupRg, xRg1, xRg2, xTru, xNot, xAndT, xOrT, xAnd, xOr, xNotV, rdB, xIf, xNeg, xMet, xMet0, xMut, xMut0, aNil, aCons, vals, rdAll, DL.R.rd, oNone, oSome, xSlL, xSlT, gSet, gsNil, gsCons, gTupD, gLstD, gSubL, freeAt, isOw, kYes, List.getElem?_cons_zero, List.getElem?_cons_succ, List.set_cons_zero, List.set_cons_succ, Option.bind_some, Option.bind_none, if_true, if_false, Bool.false_eq_true, reduceIte, List.length_cons, List.length_nil, Bool.and_true, Bool.true_and, Bool.and_self, Bool.not_true, Bool.not_false, false_and, and_false, true_and, and_true, Option.isSome_some, xCallV, xCallVN, xCallB, xCh2, xCh3, isB, xDct1, xMake, sFldD, sPutD, List.map_cons, List.map_nil, nD, l1, e2, e3, i1, i2, i3, dPlus_int, s1, j1, j2, j3, dSub_int, s2]
      simp only [sSeq, sSet, sSetN, sAsg, sDrop, sRet, sRetN, sIf, sPar, sAug, sAugL, sNil, xName, xC, xBin, xBinN, xBinT, xCall, xCallN, xNew, xTup, xLst, xLstRg, xTupRg, xRg1, xRg2, xTru, xNot, xAndT, xOrT, xAnd, xOr, xNotV, rdB, xIf, xNeg, xMet, xMet0, xMut, xMut0, aNil, aCons, vals, rdAll, DL.R.rd, oNone, oSome, xSlL, xSlT, gSet, gsNil, gsCons, gTupD, gLstD, gSubL, freeAt, isOw, kYes, List.getElem?_cons_zero, List.getElem?_cons_succ, List.set_cons_zero, List.set_cons_succ, Option.bind_some, Option.bind_none, if_true, if_false, Bool.false_eq_true, reduceIte, List.length_cons, List.length_nil, Bool.and_true, Bool.true_and, Bool.and_self, Bool.not_true, Bool.not_false, false_and, and_false, true_and, and_true, Option.isSome_some, xCallV, xCallVN, xCallB, xCh2, xCh3, isB, xDct1, xMake, sFldD, sPutD, List.map_cons, List.map_nil, wps, wp1, List.foldl_cons, List.foldl_nil])
  dsimp only at p1 p2 run
  obtain ⟨t3, d3, ht3, hd3, e3⟩ := pick_ok p1 6 (by omega) (by omega)
  have e3 : m__law_pick [.ow true t2, .imm (.int 6)] = some (.int (d3 : Nat), [.ow true t3, .imm (.int 6)]) := e3
  have l0 : dListOf [rwD n r] = some (.lst (tn n fun v => .int (r v))) := rfl
  have first : sSetN 1 (xCallN dListOf (aCons (xName 1) aNil)) [.ow true t, .imm (rwD n r), .un, .un, .un] = some (.nx (RB t n r)) := by
    unfold RB
    simp only [sSeq, sSet, sSetN, sAsg, sDrop, sRet, sRetN, sIf, sPar, sAug, sAugL, sNil, xName, xC, xBin, xBinN, xBinT, xCall, xCallN, xNew, xTup, xLst, xLstRg, xTupRg, xRg1, xRg2, xTru, xNot, xAndT, xOrT, xAnd, xOr, xNotV, rdB, xIf, xNeg, xMet, xMet0, xMut, xMut0, aNil, aCons, vals, rdAll, DL.R.rd, oNone, oSome, xSlL, xSlT, gSet, gsNil, gsCons, gTupD, gLstD, gSubL, freeAt, isOw, kYes, List.getElem?_cons_zero, List.getElem?_cons_succ, List.set_cons_zero, List.set_cons_succ, Option.bind_some, Option.bind_none, if_true, if_false, Bool.false_eq_true, reduceIte, List.length_cons, List.length_nil, Bool.and_true, Bool.true_and, Bool.and_self, Bool.not_true, Bool.not_false, false_and, and_false, true_and, and_true, Option.isSome_some, xCallV, xCallVN, xCallB, xCh2, xCh3, isB, xDct1, xMake, sFldD, sPutD, List.map_cons, List.map_nil, l0]
  by_cases h0 : d3 = 0
  · subst h0
    refine ⟨t3, fun v => if v = 0 then r2 0 + 1 else r2 v, ht3, fun v hv => ?_, fnD_rt (b := false) (ρ' := RB t3 n fun v => if v = 0 then r2 0 + 1 else r2 v) ?_ rfl (.inl rfl) rfl⟩
    · have b1 := p2 v hv
      have b2 := p2 0 (by omega)
      simp only [List.length_nil] at b1 b2
      dsimp only
      split <;> omega
    · show b__law_bent [.ow true t, .imm (rwD n r), .un, .un, .un] = _
      unfold b__law_bent
      have i1 : dIx (.lst (tn n fun v => .int (r2 v))) (.int 0) = some (.int (r2 0)) := ixL (fun v => D.int (r2 v)) (k := 0) (by omega)
      have i2 : ixN (tn n fun v => D.int (r2 v)).length 0 = some 0 := ixN_nat (i := 0) (by rw [tn_len]; omega)
      have i3 := tn_get (fun v => D.int (r2 v)) (k := 0) (show 0 < n by omega)
      have s1 := set_row n r2 0 (r2 0 + 1)
      have z0 : (((0 : Nat) : Int) == 0) = true := rfl
      refine step _ first (step _ run ?_)
      unfold RB rwD
      generalize (tn n fun v => D.int (r2 v)) = c1 at i1 i2 i3 s1 ⊢
      generalize (tn n fun v => D.int (if v = 0 then r2 0 + 1 else r2 v)) = c2 at s1 ⊢
      simp only [sSeq, sSet, sSetN, sAsg, sDrop, sRet, sRetN, sIf, sPar, sAug, sAugL, sNil, xName, xC, xBin, xBinN, xBinT, xCall, xCallN, xNew, xTup, xLst, xLstRg, xTupRg, xRg1, xRg2, xTru, xNot, xAndT, xOrT, xAnd, xOr, xNotV, rdB, xIf, xNeg, xMet, xMet0, xMut, xMut0, aNil, aCons, vals, rdAll, DL.R.rd, oNone, oSome, xSlL, xSlT, gSet, gsNil, gsCons, gTupD, gLstD, gSubL, freeAt, isOw, kYes, List.getElem?_cons_zero, List.getElem?_cons_succ, List.set_cons_zero, List.set_cons_succ, Option.bind_some, Option.bind_none, if_true, if_false, Bool.false_eq_true, reduceIte, List.length_cons, List.length_nil, Bool.and_true, Bool.true_and, Bool.and_self, Bool.not_true, Bool.not_false, false_and, and_false, true_and, and_true, Option.isSome_some, xCallV, xCallVN, xCallB, xCh2, xCh3, isB, xDct1, xMake, sFldD, sPutD, List.map_cons, List.map_nil, e3, dEq_int, z0, i1, i2, i3, dPlus_int, s1, dTupOf]
  · refine ⟨t3, r2, ht3, fun v hv => ?_, fnD_rt (b := false) (ρ' := RB t3 n r2) ?_ rfl (.inl rfl) rfl⟩
    · have b1 := p2 v hv
      simp only [List.length_nil] at b1
      omega
    · show b__law_bent [.ow true t, .imm (rwD n r), .un, .un, .un] = _
      unfold b__law_bent
      have z0 : (((d3 : Nat) : Int) == 0) = false := by rw [beq_eq_false_iff_ne]; omega
      refine step _ first (step _ run ?_)
      unfold RB rwD
      simp only [sSeq, sSet, sSetN, sAsg, sDrop, sRet, sRetN, sIf, sPar, sAug, sAugL, sNil, xName, xC, xBin, xBinN, xBinT, xCall, xCallN, xNew, xTup, xLst, xLstRg, xTupRg, xRg1, xRg2, xTru, xNot, xAndT, xOrT, xAnd, xOr, xNotV, rdB, xIf, xNeg, xMet, xMet0, xMut, xMut0, aNil, aCons, vals, rdAll, DL.R.rd, oNone, oSome, xSlL, xSlT, gSet, gsNil, gsCons, gTupD, gLstD, gSubL, freeAt, isOw, kYes, List.getElem?_cons_zero, List.getElem?_cons_succ, List.set_cons_zero, List.set_cons_succ, Option.bind_some, Option.bind_none, if_true, if_false, Bool.false_eq_true, reduceIte, List.length_cons, List.length_nil, Bool.and_true, Bool.true_and, Bool.and_self, Bool.not_true, Bool.not_false, false_and, and_false, true_and, and_true, Option.isSome_some, xCallV, xCallVN, xCallB, xCh2, xCh3, isB, xDct1, xMake, sFldD, sPutD, List.map_cons, List.map_nil, e3, dEq_int, z0, dTupOf]
end K59

set_option maxRecDepth 100000
namespace K59
open PySem PySem.Spec PyProof.Rows L2 DL
/-! ### the law's comparison, at two equal data -/
theorem isoB (b : Bool) : DL.isObj (.bl b) = false := rfl
theorem isoI (b : Int) : DL.isObj (.int b) = false := rfl
theorem isoL (b : List D) : DL.isObj (.lst b) = false := rfl
theorem isoT (b : List D) : DL.isObj (.tup b) = false := rfl
theorem truT : dTru (.bl true) = some true := rfl
theorem truF : dTru (.bl false) = some false := rfl
def Same (n : Nat) (d : D) : Prop := m__law_same n [.imm d, .imm d] = some (.bl true, [.imm d, .imm d])
theorem same_of {n : Nat} {d : D} {ρ' : Ev} (h : b__law_same (m__law_same n) [.imm d, .imm d, .un] = some (.rt (.bl true) false (.imm d :: .imm d :: ρ'))) : Same (n + 1) d :=
  fnD_rt (nw := false) (k := 1) (ρa := [.imm d, .imm d]) (b := false) h rfl (.inl rfl) rfl
theorem same_bl (n : Nat) (b : Bool) : Same (n + 1) (.bl b) := by
  refine same_of (ρ' := [.un]) ?_
  have e1 : dIs (.bl b) .non = some (.bl false) := rfl
  have e2 : kitB (tyD (.bl b)) "bool" = some true := by show kitB "bool" "bool" = _; decide +kernel
  have e3 : dEq (.bl b) (.bl b) = some (.bl true) := by cases b <;> rfl
  unfold b__law_same
  simp only [sSeq, sSet, sSetN, sAsg, sDrop, sRet, sRetN, sIf, sPar, sAug, sAugL, sNil, xName, xC, xBin, xBinN, xBinT, xCall, xCallN, xNew, xTup, xLst, xLstRg, xTupRg, xRg1, xRg2, xTru, xNot, xAndT, xOrT, xAnd, xOr, xNotV, rdB, xIf, xNeg, xMet, xMet0, xMut, xMut0, aNil, aCons, vals, rdAll, DL.R.rd, oNone, oSome, xSlL, xSlT, gSet, gsNil, gsCons, gTupD, gLstD, gSubL, freeAt, isOw, kYes, List.getElem?_cons_zero, List.getElem?_cons_succ, List.set_cons_zero, List.set_cons_succ, Option.bind_some, Option.bind_none, if_true, if_false, Bool.false_eq_true, reduceIte, List.length_cons, List.length_nil, Bool.and_true, Bool.true_and, Bool.and_self, Bool.not_true, Bool.not_false, false_and, and_false, true_and, and_true, Option.isSome_some, xIsi, isoB, isoI, isoL, isoT, e1, e2, e3, truT, truF]
theorem same_int (n : Nat) (i : Int) : Same (n + 1) (.int i) := by
  refine same_of (ρ' := [.un]) ?_
  have e1 : dIs (.int i) .non = some (.bl false) := rfl
  have e2 : kitB (tyD (.int i)) "bool" = some false := by show kitB "int" "bool" = _; decide +kernel
  have e4 : kitB (tyD (.int i)) "int" = some true := by show kitB "int" "int" = _; decide +kernel
  have e3 : dEq (.int i) (.int i) = some (.bl true) := by rw [dEq_int, beq_self_eq_true]
  unfold b__law_same
  simp only [sSeq, sSet, sSetN, sAsg, sDrop, sRet, sRetN, sIf, sPar, sAug, sAugL, sNil, xName, xC, xBin, xBinN, xBinT, xCall, xCallN, xNew, xTup, xLst, xLstRg, xTupRg, xRg1, xRg2, xTru, xNot, xAndT, xOrT, xAnd, xOr, xNotV, rdB, xIf, xNeg, xMet, xMet0, xMut, xMut0, aNil, aCons, vals, rdAll, DL.R.rd, oNone, oSome, xSlL, xSlT, gSet, gsNil, gsCons, gTupD, gLstD, gSubL, freeAt, isOw, kYes, List.getElem?_cons_zero, List.getElem?_cons_succ, List.set_cons_zero, List.set_cons_succ, Option.bind_some, Option.bind_none, if_true, if_false, Bool.false_eq_true, reduceIte, List.length_cons, List.length_nil, Bool.and_true, Bool.true_and, Bool.and_self, Bool.not_true, Bool.not_false, false_and, and_false, true_and, and_true, Option.isSome_some, xIsi, isoB, isoI, isoL, isoT, e1, e2, e3, e4, truT, truF]
theorem same_comp {n : Nat} {d : D} {ds : List D} (hn : dLen [d] = some (.int (ds.length : Nat))) (hx : ∀ k : Nat, dIx d (.int k) = ds[k]?) (h : ∀ x ∈ ds, Same n x) (hl : ds.length ≤ 16777216) :
    X__law_same_1 (m__law_same n) [.imm d, .imm d, .un] = some (.lst [], [.imm d, .imm d, .un]) := by
  unfold X__law_same_1
  have hfi : iRg1 (xCall dLen (aCons (xName 1) aNil)) [.imm d, .imm d, .un] = some (((List.range ds.length).map nD, none), [.imm d, .imm d, .un]) := by
    refine iRg1_nat ?_ hl
    simp only [sSeq, sSet, sSetN, sAsg, sDrop, sRet, sRetN, sIf, sPar, sAug, sAugL, sNil, xName, xC, xBin, xBinN, xBinT, xCall, xCallN, xNew, xTup, xLst, xLstRg, xTupRg, xRg1, xRg2, xTru, xNot, xAndT, xOrT, xAnd, xOr, xNotV, rdB, xIf, xNeg, xMet, xMet0, xMut, xMut0, aNil, aCons, vals, rdAll, DL.R.rd, oNone, oSome, xSlL, xSlT, gSet, gsNil, gsCons, gTupD, gLstD, gSubL, freeAt, isOw, kYes, List.getElem?_cons_zero, List.getElem?_cons_succ, List.set_cons_zero, List.set_cons_succ, Option.bind_some, Option.bind_none, if_true, if_false, Bool.false_eq_true, reduceIte, List.length_cons, List.length_nil, Bool.and_true, Bool.true_and, Bool.and_self, Bool.not_true, Bool.not_false, false_and, and_false, true_and, and_true, Option.isSome_some, hn]
  have := xLc_run (fi := iRg1 (xCall dLen (aCons (xName 1) aNil))) (vs := [2]) (g := gSet 2) (k := K__law_same_1 (m__law_same n)) (f := E__law_same_1 (m__law_same n)) nD (fun _ => none) (List.range ds.length) hfi rfl (by rw [List.length_range]; exact hl) fun k hk => ?_
  · rw [this, filt_none _ _ fun _ _ => rfl]
  · have hk := List.mem_range.mp hk
    have e1 : dIx d (.int k) = some ds[k] := by rw [hx, List.getElem?_eq_getElem hk]
    have e2 := h ds[k] (List.getElem_mem hk)
    unfold Same at e2
    unfold turnC K__law_same_1 E__law_same_1
    simp only [sSeq, sSet, sSetN, sAsg, sDrop, sRet, sRetN, sIf, sPar, sAug, sAugL, sNil, xName, xC, xBin, xBinN, xBinT, xCall, xCallN, xNew, xTup, xLst, xLstRg, xTupRg, xRg1, xRg2, xTru, xNot, xAndT, xOrT, xAnd, xOr, xNotV, rdB, xIf, xNeg, xMet, xMet0, xMut, xMut0, aNil, aCons, vals, rdAll, DL.R.rd, oNone, oSome, xSlL, xSlT, gSet, gsNil, gsCons, gTupD, gLstD, gSubL, freeAt, isOw, kYes, List.getElem?_cons_zero, List.getElem?_cons_succ, List.set_cons_zero, List.set_cons_succ, Option.bind_some, Option.bind_none, if_true, if_false, Bool.false_eq_true, reduceIte, List.length_cons, List.length_nil, Bool.and_true, Bool.true_and, Bool.and_self, Bool.not_true, Bool.not_false, false_and, and_false, true_and, and_true, Option.isSome_some, nD, wipeE, wp1, List.foldl_cons, List.foldl_nil, xCallV, List.map_cons, List.map_nil, e1, e2, truT, truF]
theorem same_lst {n : Nat} {ds : List D} (h : ∀ x ∈ ds, Same n x) (hl : ds.length ≤ 16777216) : Same (n + 1) (.lst ds) := by
  refine same_of (ρ' := [.un]) ?_
  have hn : dLen [.lst ds] = some (.int (ds.length : Nat)) := rfl
  have hx : ∀ k : Nat, dIx (.lst ds) (.int k) = ds[k]? := fun k => atI_nat' ds k
  have hc := same_comp hn hx h hl
  have e1 : dIs (.lst ds) .non = some (.bl false) := rfl
  have e2 : kitB (tyD (.lst ds)) "bool" = some false := by show kitB "list" "bool" = _; decide +kernel
  have e4 : kitB (tyD (.lst ds)) "int" = some false := by show kitB "list" "int" = _; decide +kernel
  have e5 : kitB (tyD (.lst ds)) "str" = some false := by show kitB "list" "str" = _; decide +kernel
  have e6 : kitB (tyD (.lst ds)) "list" = some true := by show kitB "list" "list" = _; decide +kernel
  have e7 : kitB (tyD (.lst ds)) "tuple" = some false := by show kitB "list" "tuple" = _; decide +kernel
  have e8 : dEq (.lst []) (.lst []) = some (.bl true) := rfl
  have e9 : Grd (0 ≤ sizeLine) = True := by simp [Grd]
  unfold b__law_same
  simp only [sSeq, sSet, sSetN, sAsg, sDrop, sRet, sRetN, sIf, sPar, sAug, sAugL, sNil, xName, xC, xBin, xBinN, xBinT, xCall, xCallN, xNew, xTup, xLst, xLstRg, xTupRg, xRg1, xRg2, xTru, xNot, xAndT, xOrT, xAnd, xOr, xNotV, rdB, xIf, xNeg, xMet, xMet0, xMut, xMut0, aNil, aCons, vals, rdAll, DL.R.rd, oNone, oSome, xSlL, xSlT, gSet, gsNil, gsCons, gTupD, gLstD, gSubL, freeAt, isOw, kYes, List.getElem?_cons_zero, List.getElem?_cons_succ, List.set_cons_zero, List.set_cons_succ, Option.bind_some, Option.bind_none, if_true, if_false, Bool.false_eq_true, reduceIte, List.length_cons, List.length_nil, Bool.and_true, Bool.true_and, Bool.and_self, Bool.not_true, Bool.not_false, false_and, and_false, true_and, and_true, Option.isSome_some, xIsi, isoB, isoI, isoL, isoT, e9, e1, e2, e4, e5, e6, e7, e8, truT, truF, hn, hc, dEq_int, beq_self_eq_true]
theorem same_tup {n : Nat} {ds : List D} (h : ∀ x ∈ ds, Same n x) (hl : ds.length ≤ 16777216) : Same (n + 1) (.tup ds) := by
  refine same_of (ρ' := [.un]) ?_
  have hn : dLen [.tup ds] = some (.int (ds.length : Nat)) := rfl
  have hx : ∀ k : Nat, dIx (.tup ds) (.int k) = ds[k]? := fun k => atI_nat' ds k
  have hc := same_comp hn hx h hl
  have e1 : dIs (.tup ds) .non = some (.bl false) := rfl
  have e2 : kitB (tyD (.tup ds)) "bool" = some false := by show kitB "tuple" "bool" = _; decide +kernel
  have e4 : kitB (tyD (.tup ds)) "int" = some false := by show kitB "tuple" "int" = _; decide +kernel
  have e5 : kitB (tyD (.tup ds)) "str" = some false := by show kitB "tuple" "str" = _; decide +kernel
  have e6 : kitB (tyD (.tup ds)) "list" = some false := by show kitB "tuple" "list" = _; decide +kernel
  have e7 : kitB (tyD (.tup ds)) "tuple" = some true := by show kitB "tuple" "tuple" = _; decide +kernel
  have e8 : dEq (.lst []) (.lst []) = some (.bl true) := rfl
  have e9 : Grd (0 ≤ sizeLine) = True := by simp [Grd]
  unfold b__law_same
  simp only [sSeq, sSet, sSetN, sAsg, sDrop, sRet, sRetN, sIf, sPar, sAug, sAugL, sNil, xName, xC, xBin, xBinN, xBinT, xCall, xCallN, xNew, xTup, xLst, xLstRg, xTupRg, xRg1, xRg2, xTru, xNot, xAndT, xOrT, xAnd, xOr, xNotV, rdB, xIf, xNeg, xMet, xMet0, xMut, xMut0, aNil, aCons, vals, rdAll, DL.R.rd, oNone, oSome, xSlL, xSlT, gSet, gsNil, gsCons, gTupD, gLstD, gSubL, freeAt, isOw, kYes, List.getElem?_cons_zero, List.getElem?_cons_succ, List.set_cons_zero, List.set_cons_succ, Option.bind_some, Option.bind_none, if_true, if_false, Bool.false_eq_true, reduceIte, List.length_cons, List.length_nil, Bool.and_true, Bool.true_and, Bool.and_self, Bool.not_true, Bool.not_false, false_and, and_false, true_and, and_true, Option.isSome_some, xIsi, isoB, isoI, isoL, isoT, e9, e1, e2, e4, e5, e6, e7, e8, truT, truF, hn, hc, dEq_int, beq_self_eq_true]
theorem same_ints (k : Nat) (n : Nat) (f : Nat → Int) (hn : n ≤ 1000) : Same (k + 2) (.tup (tn n fun v => .int (f v))) := same_tup (fun x hx => by
  obtain ⟨a, _, rfl⟩ := List.mem_map.mp hx
  exact same_int k _) (by rw [tn_len]; omega)
end K59

set_option maxRecDepth 100000
namespace K59
open PySem PySem.Spec PyProof.Rows L2 DL
/-! ### the law's own looks -/
section
variable {n m : Nat} {e : Nat → Nat × Nat} {h : Nat → Nat}
theorem XS1 (H : HdOk m e h) (hm : m ≤ 1000) {wr : List D → D} (hw : wr = .lst ∨ wr = .tup) (n : D) : X__law_scores_1 [.imm n, .imm (.tup (edD m e)), .imm (wr (hdD m h)), .un, .un, .un, .un] = some (.lst ((List.range m).map fun k => nD (tl e h k)), [.imm n, .imm (.tup (edD m e)), .imm (wr (hdD m h)), .un, .un, .un, .un]) := by
  unfold X__law_scores_1
  have hL : dLen [.tup (edD m e)] = some (.int m) := lenT _ _
  have hfi : iRg1 (xCall dLen (aCons (xName 1) aNil)) [.imm n, .imm (.tup (edD m e)), .imm (wr (hdD m h)), .un, .un, .un, .un] = some (((List.range m).map nD, none), [.imm n, .imm (.tup (edD m e)), .imm (wr (hdD m h)), .un, .un, .un, .un]) := iRg1_nat (by simp only [sSeq, sSet, sSetN, sAsg, sDrop, sRet, sRetN, sIf, sPar, sAug, sAugL, sNil, xName, xC, xBin, xBinN, xBinT, xCall, xCallN, xNew, xTup, xLst, xLstRg, xTupRg, xRg1, xRg2, xTru, xNot, xAndT, xOrT, xAnd, xOr, xNotV, rdB, xIf, xNeg, xMet, xMet0, xMut, xMut0, aNil, aCons, vals, rdAll, DL.R.rd, oNone, oSome, xSlL, xSlT, gSet, gsNil, gsCons, gTupD, gLstD, gSubL, freeAt, isOw, kYes, List.getElem?_cons_zero, List.getElem?_cons_succ, List.set_cons_zero, List.set_cons_succ, Option.bind_some, Option.bind_none, if_true, if_false, Bool.false_eq_true, reduceIte, List.length_cons, List.length_nil, Bool.and_true, Bool.true_and, Bool.and_self, Bool.not_true, Bool.not_false, false_and, and_false, true_and, and_true, Option.isSome_some, xCallV, xCallVN, xCallB, xCh2, xCh3, isB, xDct1, xMake, sFldD, sPutD, List.map_cons, List.map_nil, hL]) (by omega)
  rw [xLc_run nD (fun k => some (nD (tl e h k))) (List.range m) hfi rfl (by rw [List.length_range]; have := sizeLine_eq; omega) ?_]
  · simp [List.filterMap_eq_map, Function.comp]
  · intro k hk
    have hk := List.mem_range.mp hk
    have i1 : dIx (.tup (edD m e)) (.int k) = some (pD (e k)) := ixT _ hk
    have i2 : dIx (wr (hdD m h)) (.int k) = some (.int (h k)) := ixW hw _ hk
    have i3 := tl_int H hk
    generalize wr (hdD m h) = hd at i2
    unfold turnC E__law_scores_1
    simp only [sSeq, sSet, sSetN, sAsg, sDrop, sRet, sRetN, sIf, sPar, sAug, sAugL, sNil, xName, xC, xBin, xBinN, xBinT, xCall, xCallN, xNew, xTup, xLst, xLstRg, xTupRg, xRg1, xRg2, xTru, xNot, xAndT, xOrT, xAnd, xOr, xNotV, rdB, xIf, xNeg, xMet, xMet0, xMut, xMut0, aNil, aCons, vals, rdAll, DL.R.rd, oNone, oSome, xSlL, xSlT, gSet, gsNil, gsCons, gTupD, gLstD, gSubL, freeAt, isOw, kYes, List.getElem?_cons_zero, List.getElem?_cons_succ, List.set_cons_zero, List.set_cons_succ, Option.bind_some, Option.bind_none, if_true, if_false, Bool.false_eq_true, reduceIte, List.length_cons, List.length_nil, Bool.and_true, Bool.true_and, Bool.and_self, Bool.not_true, Bool.not_false, false_and, and_false, true_and, and_true, Option.isSome_some, xCallV, xCallVN, xCallB, xCh2, xCh3, isB, xDct1, xMake, sFldD, sPutD, List.map_cons, List.map_nil, nD, wipeE, i1, i2, dIx_0, dIx_1, dPlus_int, dSub_int, i3]
theorem XS2 (n w x : D) (ts : List Nat) (v : Nat) (hl : ts.length ≤ 1000) : X__law_scores_2 [.imm n, .imm w, .imm x, .imm (.lst (ts.map nD)), .un, .imm (.int v), .un] = some (.lst ((ts.filter (· == v)).map fun _ => .int 1), [.imm n, .imm w, .imm x, .imm (.lst (ts.map nD)), .un, .imm (.int v), .un]) := by
  unfold X__law_scores_2
  rw [xLc_run nD (fun p => if (p == v) = true then some (.int 1) else none) ts rfl rfl (by have := sizeLine_eq; omega) ?_]
  · rw [filterMap_if (· == v) fun _ => D.int 1]
  · intro x hx
    unfold turnC K__law_scores_1 E__law_scores_2
    simp only [sSeq, sSet, sSetN, sAsg, sDrop, sRet, sRetN, sIf, sPar, sAug, sAugL, sNil, xName, xC, xBin, xBinN, xBinT, xCall, xCallN, xNew, xTup, xLst, xLstRg, xTupRg, xRg1, xRg2, xTru, xNot, xAndT, xOrT, xAnd, xOr, xNotV, rdB, xIf, xNeg, xMet, xMet0, xMut, xMut0, aNil, aCons, vals, rdAll, DL.R.rd, oNone, oSome, xSlL, xSlT, gSet, gsNil, gsCons, gTupD, gLstD, gSubL, freeAt, isOw, kYes, List.getElem?_cons_zero, List.getElem?_cons_succ, List.set_cons_zero, List.set_cons_succ, Option.bind_some, Option.bind_none, if_true, if_false, Bool.false_eq_true, reduceIte, List.length_cons, List.length_nil, Bool.and_true, Bool.true_and, Bool.and_self, Bool.not_true, Bool.not_false, false_and, and_false, true_and, and_true, Option.isSome_some, xCallV, xCallVN, xCallB, xCh2, xCh3, isB, xDct1, xMake, sFldD, sPutD, List.map_cons, List.map_nil, wipeE, nD, dEq_int, beq_nat]
    cases h : x == v with
    | true => simp only [sSeq, sSet, sSetN, sAsg, sDrop, sRet, sRetN, sIf, sPar, sAug, sAugL, sNil, xName, xC, xBin, xBinN, xBinT, xCall, xCallN, xNew, xTup, xLst, xLstRg, xTupRg, xRg1, xRg2, xTru, xNot, xAndT, xOrT, xAnd, xOr, xNotV, rdB, xIf, xNeg, xMet, xMet0, xMut, xMut0, aNil, aCons, vals, rdAll, DL.R.rd, oNone, oSome, xSlL, xSlT, gSet, gsNil, gsCons, gTupD, gLstD, gSubL, freeAt, isOw, kYes, List.getElem?_cons_zero, List.getElem?_cons_succ, List.set_cons_zero, List.set_cons_succ, Option.bind_some, Option.bind_none, if_true, if_false, Bool.false_eq_true, reduceIte, List.length_cons, List.length_nil, Bool.and_true, Bool.true_and, Bool.and_self, Bool.not_true, Bool.not_false, false_and, and_false, true_and, and_true, Option.isSome_some, xCallV, xCallVN, xCallB, xCh2, xCh3, isB, xDct1, xMake, sFldD, sPutD, List.map_cons, List.map_nil, wipeE]
    | false => simp only [sSeq, sSet, sSetN, sAsg, sDrop, sRet, sRetN, sIf, sPar, sAug, sAugL, sNil, xName, xC, xBin, xBinN, xBinT, xCall, xCallN, xNew, xTup, xLst, xLstRg, xTupRg, xRg1, xRg2, xTru, xNot, xAndT, xOrT, xAnd, xOr, xNotV, rdB, xIf, xNeg, xMet, xMet0, xMut, xMut0, aNil, aCons, vals, rdAll, DL.R.rd, oNone, oSome, xSlL, xSlT, gSet, gsNil, gsCons, gTupD, gLstD, gSubL, freeAt, isOw, kYes, List.getElem?_cons_zero, List.getElem?_cons_succ, List.set_cons_zero, List.set_cons_succ, Option.bind_some, Option.bind_none, if_true, if_false, Bool.false_eq_true, reduceIte, List.length_cons, List.length_nil, Bool.and_true, Bool.true_and, Bool.and_self, Bool.not_true, Bool.not_false, false_and, and_false, true_and, and_true, Option.isSome_some, xCallV, xCallVN, xCallB, xCh2, xCh3, isB, xDct1, xMake, sFldD, sPutD, List.map_cons, List.map_nil, wipeE]
theorem XS3 (w x : D) (ts : List Nat) (hn : n ≤ 1000) (hl : ts.length ≤ 1000) : X__law_scores_3 [.imm (.int n), .imm w, .imm x, .imm (.lst (ts.map nD)), .un, .un, .un] = some (.lst ((List.range n).map fun v => nD (ts.filter (· == v)).length), [.imm (.int n), .imm w, .imm x, .imm (.lst (ts.map nD)), .un, .un, .un]) := by
  unfold X__law_scores_3
  rw [xLc_run nD (fun v => some (nD (ts.filter (· == v)).length)) (List.range n) (iRg1_nat (f := xName 0) rfl (by omega)) rfl (by rw [List.length_range]; have := sizeLine_eq; omega) ?_]
  · simp [List.filterMap_eq_map, Function.comp]
  · intro v hv
    have x2 := XS2 (.int n) w x ts v hl
    have l1 : dLen [.lst ((ts.filter (· == v)).map fun _ => .int 1)] = some (.int ((ts.filter (· == v)).length : Nat)) := by
      show some (D.int _) = _
      rw [List.length_map]
    generalize ((ts.filter (· == v)).map fun _ => D.int 1) = ones at x2 l1
    unfold turnC E__law_scores_3
    simp only [sSeq, sSet, sSetN, sAsg, sDrop, sRet, sRetN, sIf, sPar, sAug, sAugL, sNil, xName, xC, xBin, xBinN, xBinT, xCall, xCallN, xNew, xTup, xLst, xLstRg, xTupRg, xRg1, xRg2, xTru, xNot, xAndT, xOrT, xAnd, xOr, xNotV, rdB, xIf, xNeg, xMet, xMet0, xMut, xMut0, aNil, aCons, vals, rdAll, DL.R.rd, oNone, oSome, xSlL, xSlT, gSet, gsNil, gsCons, gTupD, gLstD, gSubL, freeAt, isOw, kYes, List.getElem?_cons_zero, List.getElem?_cons_succ, List.set_cons_zero, List.set_cons_succ, Option.bind_some, Option.bind_none, if_true, if_false, Bool.false_eq_true, reduceIte, List.length_cons, List.length_nil, Bool.and_true, Bool.true_and, Bool.and_self, Bool.not_true, Bool.not_false, false_and, and_false, true_and, and_true, Option.isSome_some, xCallV, xCallVN, xCallB, xCh2, xCh3, isB, xDct1, xMake, sFldD, sPutD, List.map_cons, List.map_nil, nD, wipeE, x2, l1]
theorem lawsc_eq (H : HdOk m e h) (hn : n ≤ 1000) (hm : m ≤ 1000) {wr : List D → D} (hw : wr = .lst ∨ wr = .tup) : m__law_scores [.imm (.int n), .imm (.tup (edD m e)), .imm (wr (hdD m h))] = some (scD n m e h, [.imm (.int n), .imm (.tup (edD m e)), .imm (wr (hdD m h))]) := by
  have x1 := XS1 H hm hw (.int n)
  have et : ((List.range m).map fun k => nD (tl e h k)) = ((List.range m).map (tl e h)).map nD := by rw [List.map_map]; rfl
  rw [et] at x1
  have x3 := XS3 (n := n) (.tup (edD m e)) (wr (hdD m h)) ((List.range m).map (tl e h)) hn (by simp; omega)
  have t0 : dTupOf [.lst ((List.range n).map fun v => nD (((List.range m).map (tl e h)).filter (· == v)).length)] = some (scD n m e h) := by
    show some (D.tup _) = _
    unfold scD tn
    congr 2
    refine List.map_congr_left fun v _ => ?_
    rw [List.filter_map, List.length_map]
    show nD ((List.range m).filter fun k => tl e h k == v).length = _
    rw [cntS_filter]
    rfl
  refine fnD_rt (b := false) (ρ' := [.imm (.int n), .imm (.tup (edD m e)), .imm (wr (hdD m h)), .imm (.lst (((List.range m).map (tl e h)).map nD)), .un, .un, .un]) ?_ rfl (.inl rfl) rfl
  show b__law_scores [.imm (.int n), .imm (.tup (edD m e)), .imm (wr (hdD m h)), .un, .un, .un, .un] = _
  unfold b__law_scores
  generalize ((List.range m).map (tl e h)).map nD = ts at x1 x3 ⊢
  generalize ((List.range n).map fun v => nD (((List.range m).map (tl e h)).filter (· == v)).length) = us at x3 t0
  generalize wr (hdD m h) = hd at x1 x3 ⊢
  simp only [sSeq, sSet, sSetN, sAsg, sDrop, sRet, sRetN, sIf, sPar, sAug, sAugL, sNil, xName, xC, xBin, xBinN, xBinT, xCall, xCallN, xNew, xTup, xLst, xLstRg, xTupRg, xRg1, xRg2, xTru, xNot, xAndT, xOrT, xAnd, xOr, xNotV, rdB, xIf, xNeg, xMet, xMet0, xMut, xMut0, aNil, aCons, vals, rdAll, DL.R.rd, oNone, oSome, xSlL, xSlT, gSet, gsNil, gsCons, gTupD, gLstD, gSubL, freeAt, isOw, kYes, List.getElem?_cons_zero, List.getElem?_cons_succ, List.set_cons_zero, List.set_cons_succ, Option.bind_some, Option.bind_none, if_true, if_false, Bool.false_eq_true, reduceIte, List.length_cons, List.length_nil, Bool.and_true, Bool.true_and, Bool.and_self, Bool.not_true, Bool.not_false, false_and, and_false, true_and, and_true, Option.isSome_some, xCallV, xCallVN, xCallB, xCh2, xCh3, isB, xDct1, xMake, sFldD, sPutD, List.map_cons, List.map_nil, x1, x3, t0]
end
/-! the sets below a number -/
def lowF (s : List Nat) : Nat := match s.getLast? with
  | none => 0
  | some x => x + 1
def extF (n : Nat) (s : List Nat) : List (List Nat) := (List.range (n - lowF s)).map fun k => s ++ [lowF s + k]
def levelF (n : Nat) : Nat → List (List Nat)
  | 0 => [[]]
  | i + 1 => (levelF n i).flatMap (extF n)
def foundF (n : Nat) : Nat → List (List Nat)
  | 0 => [[]]
  | i + 1 => foundF n i ++ levelF n (i + 1)
theorem fin_sets : ((List.range 6).all fun n => (List.range 6).all fun i => decide ((levelF n i).length ≤ 1000) && decide ((foundF n i).length ≤ 1000)) = true := by decide +kernel
theorem sets_len {n i : Nat} (hn : n ≤ 5) (hi : i ≤ 5) : (levelF n i).length ≤ 1000 ∧ (foundF n i).length ≤ 1000 := by
  have h1 := List.all_eq_true.mp (List.all_eq_true.mp fin_sets n (List.mem_range.mpr (by omega))) i (List.mem_range.mpr (by omega))
  rw [Bool.and_eq_true] at h1
  exact ⟨of_decide_eq_true h1.1, of_decide_eq_true h1.2⟩
theorem low_app (s : List Nat) (x : Nat) : lowF (s ++ [x]) = x + 1 := by simp [lowF]
theorem low_spec {s : List Nat} (h : s.Pairwise (· < ·)) : ∀ v ∈ s, v < lowF s := by
  intro v hv
  rcases List.eq_nil_or_concat s with e | ⟨t, x, e⟩
  · rw [e] at hv; cases hv
  · rw [e, List.concat_eq_append] at hv h ⊢
    rw [low_app]
    rcases List.mem_append.mp hv with a | a
    · have := (List.pairwise_append.mp h).2.2 v a x (by simp)
      omega
    · rw [List.mem_singleton.mp a]; omega
theorem level_ok (n : Nat) : ∀ i s, s ∈ levelF n i → s.Pairwise (· < ·) ∧ (∀ v ∈ s, v < n) ∧ s.length = i
  | 0, s, hs => by
    rw [List.mem_singleton.mp hs]
    exact ⟨.nil, (fun v hv => by cases hv), rfl⟩
  | i + 1, s, hs => by
    obtain ⟨t, ht, hs⟩ := List.mem_flatMap.mp hs
    obtain ⟨k, hk, rfl⟩ := List.mem_map.mp hs
    obtain ⟨a, b, c⟩ := level_ok n i t ht
    have hk := List.mem_range.mp hk
    refine ⟨List.pairwise_append.mpr ⟨a, List.pairwise_singleton _ _, fun x hx y hy => ?_⟩, fun v hv => ?_, by simp [c]⟩
    · rw [List.mem_singleton.mp hy]
      have := low_spec a x hx
      omega
    · rcases List.mem_append.mp hv with hv | hv
      · exact b v hv
      · rw [List.mem_singleton.mp hv]; omega
theorem level_all (n : Nat) : ∀ i s, s.Pairwise (· < ·) → (∀ v ∈ s, v < n) → s.length = i → s ∈ levelF n i
  | 0, s, _, _, h => by
    rw [List.length_eq_zero_iff.mp h]
    exact List.mem_singleton.mpr rfl
  | i + 1, s, h1, h2, h3 => by
    rcases List.eq_nil_or_concat s with e | ⟨t, x, e⟩
    · rw [e] at h3; cases h3
    · rw [e, List.concat_eq_append] at h1 h2 h3 ⊢
      obtain ⟨p1, p2, p3⟩ := List.pairwise_append.mp h1
      have ht := level_all n i t p1 (fun v hv => h2 v (List.mem_append_left _ hv)) (by simpa using h3)
      refine List.mem_flatMap.mpr ⟨t, ht, List.mem_map.mpr ⟨x - lowF t, ?_, ?_⟩⟩
      · have hx := h2 x (by simp)
        have hlow : lowF t ≤ x := by
          rcases List.eq_nil_or_concat t with e | ⟨u, y, e⟩
          · rw [e]; exact Nat.zero_le _
          · rw [e, List.concat_eq_append, low_app]
            have := p3 y (by rw [e, List.concat_eq_append]; simp) x (by simp)
            omega
        exact List.mem_range.mpr (by omega)
      · have hlow : lowF t ≤ x := by
          rcases List.eq_nil_or_concat t with e | ⟨u, y, e⟩
          · rw [e]; exact Nat.zero_le _
          · rw [e, List.concat_eq_append, low_app]
            have := p3 y (by rw [e, List.concat_eq_append]; simp) x (by simp)
            omega
        show t ++ [lowF t + (x - lowF t)] = t ++ [x]
        rw [show lowF t + (x - lowF t) = x by omega]
theorem found_mem (n : Nat) : ∀ i s, s ∈ foundF n i ↔ ∃ j, j ≤ i ∧ s ∈ levelF n j
  | 0, s => ⟨fun h => ⟨0, by omega, h⟩, fun ⟨j, hj, h⟩ => by rw [show j = 0 by omega] at h; exact h⟩
  | i + 1, s => by
    show s ∈ foundF n i ++ levelF n (i + 1) ↔ _
    rw [List.mem_append, found_mem n i]
    constructor
    · rintro (⟨j, hj, h⟩ | h)
      · exact ⟨j, by omega, h⟩
      · exact ⟨i + 1, by omega, h⟩
    · rintro ⟨j, hj, h⟩
      by_cases c : j = i + 1
      · rw [c] at h; exact .inr h
      · exact .inl ⟨j, by omega, h⟩
theorem pw_len {n : Nat} {s : List Nat} (h1 : s.Pairwise (· < ·)) (h2 : ∀ v ∈ s, v < n) : s.length ≤ n := by
  have key : ∀ (n : Nat) (s : List Nat), s.Pairwise (· < ·) → (∀ v ∈ s, v < n) → s.length ≤ n := by
    intro n
    induction n with
    | zero => intro s _ h; cases s with
      | nil => exact Nat.le_refl _
      | cons a s => exact absurd (h a List.mem_cons_self) (by omega)
    | succ n ih =>
      intro s h1 h2
      rcases List.eq_nil_or_concat s with e | ⟨t, x, e⟩
      · rw [e]; simp
      · rw [e, List.concat_eq_append] at h1 h2 ⊢
        obtain ⟨p1, p2, p3⟩ := List.pairwise_append.mp h1
        have := ih t p1 fun v hv => by
          have a := p3 v hv x (by simp)
          have b := h2 x (by simp)
          omega
        simp
        exact this
  exact key n s h1 h2
/-- what _law_sets gives -/
def setsF (n : Nat) : List (List Nat) := foundF n n
theorem sets_ok {n : Nat} {s : List Nat} : s ∈ setsF n ↔ s.Pairwise (· < ·) ∧ ∀ v ∈ s, v < n := by
  unfold setsF
  rw [found_mem]
  constructor
  · rintro ⟨j, _, h⟩
    obtain ⟨a, b, _⟩ := level_ok n j s h
    exact ⟨a, b⟩
  · rintro ⟨a, b⟩
    exact ⟨s.length, pw_len a b, level_all n _ s a b rfl⟩
def sD (s : List Nat) : D := .tup (s.map nD)
def ssD (ss : List (List Nat)) : D := .lst (ss.map sD)
theorem last_at {s : List Nat} {x : Nat} (h : s.getLast? = some x) : dIx (.tup (s.map nD)) (.int (-1)) = some (.int x) := by
  show atI (s.map nD) (-1) = _
  have hl : 0 < s.length := by
    cases s with
    | nil => cases h
    | cons a s => simp
  have e : ixN (s.map nD).length (-1) = some (s.length - 1) := by
    rw [List.length_map]
    unfold ixN
    rw [if_neg (by omega)]
    first
      | (rw [if_pos (by omega)]; congr 1; omega)
      | (simp; omega)
  unfold atI
  rw [e]
  show (s.map nD)[s.length - 1]? = _
  rw [List.getElem?_map, ← List.getLast?_eq_getElem?, h]
  rfl
theorem ne_nil (s : List Nat) : dNe (.tup (s.map nD)) (.tup []) = some (.bl (!s.isEmpty)) := by
  have f1 : (D.tup (s.map nD)).flt 60 = true := by simp [D.flt, flt_nats]
  have f2 : (D.tup []).flt 60 = true := by simp [D.flt, fltL]
  unfold dNe
  rw [if_pos ⟨f1, f2⟩]
  cases s with
  | nil => simp [D.py, pyL, PyData.eqv, PyData.eqvAll]
  | cons x s => simp [D.py, pyL, PyData.eqv, PyData.eqvAll]
theorem catL {xs ys : List D} (h : xs.length + ys.length ≤ 100000) : dPlus (.lst xs) (.lst ys) = some (.lst (xs ++ ys)) := by
  unfold dPlus orF dAdd dCat
  simp only [g2I]
  rw [if_pos (show Grd (xs.length + ys.length ≤ sizeLine) from by show _ ≤ _; rw [sizeLine_eq]; omega)]
theorem catT {xs ys : List D} (h : xs.length + ys.length ≤ 100000) : dPlus (.tup xs) (.tup ys) = some (.tup (xs ++ ys)) := by
  unfold dPlus orF dAdd dCat dCatT
  simp only [g2I]
  rw [if_pos (show Grd (xs.length + ys.length ≤ sizeLine) from by show _ ≤ _; rw [sizeLine_eq]; omega)]
theorem iRg2_nat {f f2 : FE} {ρ ρ1 ρ2 : Ev} {a n : Nat} (h : f ρ = some (.val (.int a), ρ1)) (h2 : f2 ρ1 = some (.val (.int n), ρ2)) (hn : n ≤ 1000) (ha : a ≤ 1000) : iRg2 f f2 ρ = some (((List.range (n - a)).map fun k => nD (a + k), none), ρ2) := by
  have e : rgD (a : Int) ((n : Int) - a).toNat = (List.range (n - a)).map fun k => nD (a + k) := by
    unfold rgD nD
    rw [show ((n : Int) - a).toNat = n - a by omega]
    rfl
  unfold iRg2
  rw [h]
  simp only [Option.bind_some, h2, DL.R.rd]
  rw [if_pos (show Grd (-(2 ^ 62) ≤ (a : Int) ∧ (a : Int) < 2 ^ 62 ∧ -(2 ^ 62) ≤ (n : Int) ∧ (n : Int) < 2 ^ 62) from ⟨by omega, by omega, by omega, by omega⟩), e]
end K59

set_option maxRecDepth 100000
namespace K59
open PySem PySem.Spec PyProof.Rows L2 DL
theorem ext_app (n : Nat) (s : List Nat) (k : Nat) : sD (s ++ [k]) = .tup (s.map nD ++ [.int k]) := by simp [sD, nD]
theorem XT1 (n : Nat) (hn : n ≤ 1000) (lv fd mn lt : D) (s : List Nat) (hs : s.length ≤ 1000) (hlow : lowF s ≤ 1000) :
    X__law_sets_1 [.imm (.int n), .imm lv, .imm fd, .imm mn, .imm lt, .imm (sD s), .imm (.int (lowF s)), .un] = some (.lst ((extF n s).map sD), [.imm (.int n), .imm lv, .imm fd, .imm mn, .imm lt, .imm (sD s), .imm (.int (lowF s)), .un]) := by
  unfold X__law_sets_1
  have hfi := iRg2_nat (f := xName 6) (f2 := xName 0) (ρ := [.imm (.int n), .imm lv, .imm fd, .imm mn, .imm lt, .imm (sD s), .imm (.int (lowF s)), .un]) (a := lowF s) (n := n) rfl rfl hn hlow
  rw [xLc_run (fun k => nD (lowF s + k)) (fun k => some (sD (s ++ [lowF s + k]))) (List.range (n - lowF s)) hfi rfl (by rw [List.length_range]; have := sizeLine_eq; omega) ?_]
  · simp [extF, List.filterMap_eq_map, Function.comp]
  · intro k hk
    have g1 : Grd (0 + 1 ≤ sizeLine) = True := grdN (by omega)
    have c := catT (xs := s.map nD) (ys := [.int (lowF s + k : Nat)]) (by simp; omega)
    rw [ext_app n]
    unfold sD
    generalize s.map nD = xs at c ⊢
    generalize lowF s + k = w at c ⊢
    unfold turnC E__law_sets_1
    simp only [sSeq, sSet, sSetN, sAsg, sDrop, sRet, sRetN, sIf, sPar, sAug, sAugL, sNil, xName, xC, xBin, xBinN, xBinT, xCall, xCallN, xNew, xTup, xLst, xLstRg, xTupRg, xRg1, xRg2, xTru, xNot, xAndT, xOrT, xAnd, xOr, xNotV, rdB, xIf, xNeg, xMet, xMet0, xMut, xMut0, aNil, aCons, vals, rdAll, DL.R.rd, oNone, oSome, xSlL, xSlT, gSet, gsNil, gsCons, gTupD, gLstD, gSubL, freeAt, isOw, kYes, List.getElem?_cons_zero, List.getElem?_cons_succ, List.set_cons_zero, List.set_cons_succ, Option.bind_some, Option.bind_none, if_true, if_false, Bool.false_eq_true, reduceIte, List.length_cons, List.length_nil, Bool.and_true, Bool.true_and, Bool.and_self, Bool.not_true, Bool.not_false, false_and, and_false, true_and, and_true, Option.isSome_some, xCallV, xCallVN, xCallB, xCh2, xCh3, isB, xDct1, xMake, sFldD, sPutD, List.map_cons, List.map_nil, nD, wipeE, g1, c]
theorem low_val (s : List Nat) (x : Nat) (h : s.getLast? = some x) : (x : Int) + 1 = (lowF s : Nat) := by
  unfold lowF
  rw [h]
  simp only
  omega
theorem LT_1 (n : Nat) (hn : n ≤ 1000) (level : List (List Nat)) (fd mn : D) (hl : (level.flatMap (extF n)).length ≤ 1000) (hs : ∀ s ∈ level, s.length ≤ 1000 ∧ lowF s ≤ 1000) :
    L__law_sets_1 [.imm (.int n), .imm (ssD level), .imm fd, .imm mn, .imm (ssD []), .un, .un, .un] = some (.nx [.imm (.int n), .imm (ssD level), .imm fd, .imm mn, .imm (ssD (level.flatMap (extF n))), .un, .un, .un]) := by
  unfold L__law_sets_1
  have hfi : iVal (xName 1) [.imm (.int n), .imm (ssD level), .imm fd, .imm mn, .imm (ssD []), .un, .un, .un] = some ((level.map sD, none), [.imm (.int n), .imm (ssD level), .imm fd, .imm mn, .imm (ssD []), .un, .un, .un]) := rfl
  have run := sFor_runL (tmp := [5, 6]) (g := gSet 5) (bd := B__law_sets_1) sD (fun later : List (List Nat) => [.imm (.int n), .imm (ssD level), .imm fd, .imm mn, .imm (ssD later), .un, .un, .un]) (fun later s => later ++ extF n s) (fun xs later => later.length + (xs.flatMap (extF n)).length ≤ 1000 ∧ ∀ s ∈ xs, s.length ≤ 1000 ∧ lowF s ≤ 1000) level [] hfi ⟨by simpa using hl, hs⟩ ?_
  · have fold : ∀ (xs : List (List Nat)) (l : List (List Nat)), xs.foldl (fun later s => later ++ extF n s) l = l ++ xs.flatMap (extF n) := by
      intro xs
      induction xs with
      | nil => intro l; simp
      | cons x xs ih => intro l; rw [List.foldl_cons, ih, List.flatMap_cons, List.append_assoc]
    rw [fold, List.nil_append] at run
    exact run.1
  · intro s xs later ⟨p1, p2⟩
    obtain ⟨q1, q2⟩ := p2 s List.mem_cons_self
    rw [List.flatMap_cons, List.length_append] at p1
    refine ⟨⟨by rw [List.length_append]; omega, fun t ht => p2 t (List.mem_cons_of_mem _ ht)⟩, ?_⟩
    have x1 := XT1 n hn (ssD level) fd mn (ssD later) s q1 q2
    have c : dPlus (ssD later) (.lst ((extF n s).map sD)) = some (ssD (later ++ extF n s)) := by
      unfold ssD
      rw [catL (by simp; omega), List.map_append]
    have ne := ne_nil s
    have g0 : Grd (0 ≤ sizeLine) = True := grdN (by omega)
    generalize ssD (later ++ extF n s) = l2 at c ⊢
    generalize ssD later = l1 at c x1 ⊢
    generalize (extF n s).map sD = ex at c x1
    cases hlast : s.getLast? with
    | none =>
      have e0 : s = [] := List.getLast?_eq_none_iff.mp hlast
      subst e0
      have z1 : lowF [] = 0 := rfl
      rw [z1] at x1
      have z2 : sD [] = .tup [] := rfl
      rw [z2] at x1 ⊢
      have ne : dNe (.tup []) (.tup []) = some (.bl false) := ne
      simp only [Int.natCast_zero] at x1
      unfold turnF B__law_sets_1
      simp only [sSeq, sSet, sSetN, sAsg, sDrop, sRet, sRetN, sIf, sPar, sAug, sAugL, sNil, xName, xC, xBin, xBinN, xBinT, xCall, xCallN, xNew, xTup, xLst, xLstRg, xTupRg, xRg1, xRg2, xTru, xNot, xAndT, xOrT, xAnd, xOr, xNotV, rdB, xIf, xNeg, xMet, xMet0, xMut, xMut0, aNil, aCons, vals, rdAll, DL.R.rd, oNone, oSome, xSlL, xSlT, gSet, gsNil, gsCons, gTupD, gLstD, gSubL, freeAt, isOw, kYes, List.getElem?_cons_zero, List.getElem?_cons_succ, List.set_cons_zero, List.set_cons_succ, Option.bind_some, Option.bind_none, if_true, if_false, Bool.false_eq_true, reduceIte, List.length_cons, List.length_nil, Bool.and_true, Bool.true_and, Bool.and_self, Bool.not_true, Bool.not_false, false_and, and_false, true_and, and_true, Option.isSome_some, xCallV, xCallVN, xCallB, xCh2, xCh3, isB, xDct1, xMake, sFldD, sPutD, List.map_cons, List.map_nil, g0, ne, x1, c]
      simp only [sSeq, sSet, sSetN, sAsg, sDrop, sRet, sRetN, sIf, sPar, sAug, sAugL, sNil, xName, xC, xBin, xBinN, xBinT, xCall, xCallN, xNew, xTup, xLst, xLstRg, xTupRg, xRg1, xRg2, xTru, xNot, xAndT, xOrT, xAnd, xOr, xNotV, rdB, xIf, xNeg, xMet, xMet0, xMut, xMut0, aNil, aCons, vals, rdAll, DL.R.rd, oNone, oSome, xSlL, xSlT, gSet, gsNil, gsCons, gTupD, gLstD, gSubL, freeAt, isOw, kYes, List.getElem?_cons_zero, List.getElem?_cons_succ, List.set_cons_zero, List.set_cons_succ, Option.bind_some, Option.bind_none, if_true, if_false, Bool.false_eq_true, reduceIte, List.length_cons, List.length_nil, Bool.and_true, Bool.true_and, Bool.and_self, Bool.not_true, Bool.not_false, false_and, and_false, true_and, and_true, Option.isSome_some, xCallV, xCallVN, xCallB, xCh2, xCh3, isB, xDct1, xMake, sFldD, sPutD, List.map_cons, List.map_nil, wps, wp1, List.foldl_cons, List.foldl_nil]
    | some x =>
      have ne2 : dNe (sD s) (.tup []) = some (.bl true) := by
        rw [show sD s = .tup (s.map nD) from rfl, ne]
        cases s with
        | nil => cases hlast
        | cons a s => rfl
      have la : dIx (sD s) (.int (-1)) = some (.int x) := last_at hlast
      have lv := low_val s x hlast
      generalize sD s = sd at ne2 la x1 ⊢
      generalize lowF s = w at x1 lv
      unfold turnF B__law_sets_1
      simp only [sSeq, sSet, sSetN, sAsg, sDrop, sRet, sRetN, sIf, sPar, sAug, sAugL, sNil, xName, xC, xBin, xBinN, xBinT, xCall, xCallN, xNew, xTup, xLst, xLstRg, xTupRg, xRg1, xRg2, xTru, xNot, xAndT, xOrT, xAnd, xOr, xNotV, rdB, xIf, xNeg, xMet, xMet0, xMut, xMut0, aNil, aCons, vals, rdAll, DL.R.rd, oNone, oSome, xSlL, xSlT, gSet, gsNil, gsCons, gTupD, gLstD, gSubL, freeAt, isOw, kYes, List.getElem?_cons_zero, List.getElem?_cons_succ, List.set_cons_zero, List.set_cons_succ, Option.bind_some, Option.bind_none, if_true, if_false, Bool.false_eq_true, reduceIte, List.length_cons, List.length_nil, Bool.and_true, Bool.true_and, Bool.and_self, Bool.not_true, Bool.not_false, false_and, and_false, true_and, and_true, Option.isSome_some, xCallV, xCallVN, xCallB, xCh2, xCh3, isB, xDct1, xMake, sFldD, sPutD, List.map_cons, List.map_nil, g0, ne2, la, dPlus_int, lv, x1, c]
      simp only [sSeq, sSet, sSetN, sAsg, sDrop, sRet, sRetN, sIf, sPar, sAug, sAugL, sNil, xName, xC, xBin, xBinN, xBinT, xCall, xCallN, xNew, xTup, xLst, xLstRg, xTupRg, xRg1, xRg2, xTru, xNot, xAndT, xOrT, xAnd, xOr, xNotV, rdB, xIf, xNeg, xMet, xMet0, xMut, xMut0, aNil, aCons, vals, rdAll, DL.R.rd, oNone, oSome, xSlL, xSlT, gSet, gsNil, gsCons, gTupD, gLstD, gSubL, freeAt, isOw, kYes, List.getElem?_cons_zero, List.getElem?_cons_succ, List.set_cons_zero, List.set_cons_succ, Option.bind_some, Option.bind_none, if_true, if_false, Bool.false_eq_true, reduceIte, List.length_cons, List.length_nil, Bool.and_true, Bool.true_and, Bool.and_self, Bool.not_true, Bool.not_false, false_and, and_false, true_and, and_true, Option.isSome_some, xCallV, xCallVN, xCallB, xCh2, xCh3, isB, xDct1, xMake, sFldD, sPutD, List.map_cons, List.map_nil, wps, wp1, List.foldl_cons, List.foldl_nil]
theorem sets_eq (n : Nat) (hn : n ≤ 5) : m__law_sets [.imm (.int n)] = some (ssD (setsF n), [.imm (.int n)]) := by
  have run := sFor_runL (tmp := [3, 4, 5, 6]) (fi := iRg1 (xName 0)) (g := gSet 3) (bd := B__law_sets_2) nD (fun i : Nat => [.imm (.int n), .imm (ssD (levelF n i)), .imm (ssD (foundF n i)), .un, .un, .un, .un, .un]) (fun i _ => i + 1) (fun xs i => i + xs.length = n) (List.range n) 0 (iRg1_nat (f := xName 0) rfl (by omega)) (by simp) ?_
  · obtain ⟨r1, r2⟩ := run
    have e : (List.range n).foldl (fun i _ => i + 1) 0 = n := by simpa using r2
    rw [e] at r1
    have g0 : Grd (0 ≤ sizeLine) = True := grdN (by omega)
    have g1 : Grd (0 + 1 ≤ sizeLine) = True := grdN (by omega)
    refine fnD_rt (b := false) (ρ' := [.imm (.int n), .imm (ssD (levelF n n)), .imm (ssD (foundF n n)), .un, .un, .un, .un, .un]) ?_ rfl (.inl rfl) rfl
    show b__law_sets [.imm (.int n), .un, .un, .un, .un, .un, .un, .un] = _
    have z : ssD (levelF n 0) = .lst [.tup []] := rfl
    have z2 : ssD (foundF n 0) = .lst [.tup []] := rfl
    rw [z, z2] at r1
    unfold b__law_sets L__law_sets_2
    generalize ssD (levelF n n) = a at r1 ⊢
    unfold setsF
    generalize ssD (foundF n n) = b at r1 ⊢
    simp only [sSeq, sSet, sSetN, sAsg, sDrop, sRet, sRetN, sIf, sPar, sAug, sAugL, sNil, xName, xC, xBin, xBinN, xBinT, xCall, xCallN, xNew, xTup, xLst, xLstRg, xTupRg, xRg1, xRg2, xTru, xNot, xAndT, xOrT, xAnd, xOr, xNotV, rdB, xIf, xNeg, xMet, xMet0, xMut, xMut0, aNil, aCons, vals, rdAll, DL.R.rd, oNone, oSome, xSlL, xSlT, gSet, gsNil, gsCons, gTupD, gLstD, gSubL, freeAt, isOw, kYes, List.getElem?_cons_zero, List.getElem?_cons_succ, List.set_cons_zero, List.set_cons_succ, Option.bind_some, Option.bind_none, if_true, if_false, Bool.false_eq_true, reduceIte, List.length_cons, List.length_nil, Bool.and_true, Bool.true_and, Bool.and_self, Bool.not_true, Bool.not_false, false_and, and_false, true_and, and_true, Option.isSome_some, xCallV, xCallVN, xCallB, xCh2, xCh3, isB, xDct1, xMake, sFldD, sPutD, List.map_cons, List.map_nil, g0, g1, r1]
  · intro k xs i hi
    rw [List.length_cons] at hi
    refine ⟨by omega, ?_⟩
    have l1 := sets_len (n := n) (i := i + 1) (by omega) (by omega)
    have l2 := sets_len (n := n) (i := i) (by omega) (by omega)
    have x1 := LT_1 n (by omega) (levelF n i) (ssD (foundF n i)) (nD k) (show (levelF n (i + 1)).length ≤ 1000 from l1.1) fun s hs => by
      obtain ⟨a, b, c⟩ := level_ok n i s hs
      refine ⟨by omega, ?_⟩
      rcases List.eq_nil_or_concat s with e | ⟨t, x, e⟩
      · rw [e]; exact Nat.zero_le _
      · rw [e, List.concat_eq_append, low_app]
        have := b x (by rw [e, List.concat_eq_append]; simp)
        omega
    rw [show (levelF n i).flatMap (extF n) = levelF n (i + 1) from rfl] at x1
    have c : dPlus (ssD (foundF n i)) (ssD (levelF n (i + 1))) = some (ssD (foundF n (i + 1))) := by
      unfold ssD
      rw [catL (by simp; omega), ← List.map_append]
      rfl
    have z : ssD [] = .lst [] := rfl
    rw [z] at x1
    have g0 : Grd (0 ≤ sizeLine) = True := grdN (by omega)
    generalize ssD (foundF n (i + 1)) = f2 at c ⊢
    generalize ssD (levelF n (i + 1)) = v2 at c x1 ⊢
    generalize ssD (foundF n i) = f1 at c x1 ⊢
    generalize ssD (levelF n i) = v1 at x1 ⊢
    unfold turnF B__law_sets_2
    simp only [sSeq, sSet, sSetN, sAsg, sDrop, sRet, sRetN, sIf, sPar, sAug, sAugL, sNil, xName, xC, xBin, xBinN, xBinT, xCall, xCallN, xNew, xTup, xLst, xLstRg, xTupRg, xRg1, xRg2, xTru, xNot, xAndT, xOrT, xAnd, xOr, xNotV, rdB, xIf, xNeg, xMet, xMet0, xMut, xMut0, aNil, aCons, vals, rdAll, DL.R.rd, oNone, oSome, xSlL, xSlT, gSet, gsNil, gsCons, gTupD, gLstD, gSubL, freeAt, isOw, kYes, List.getElem?_cons_zero, List.getElem?_cons_succ, List.set_cons_zero, List.set_cons_succ, Option.bind_some, Option.bind_none, if_true, if_false, Bool.false_eq_true, reduceIte, List.length_cons, List.length_nil, Bool.and_true, Bool.true_and, Bool.and_self, Bool.not_true, Bool.not_false, false_and, and_false, true_and, and_true, Option.isSome_some, xCallV, xCallVN, xCallB, xCh2, xCh3, isB, xDct1, xMake, sFldD, sPutD, List.map_cons, List.map_nil, g0, x1, c]
    simp only [sSeq, sSet, sSetN, sAsg, sDrop, sRet, sRetN, sIf, sPar, sAug, sAugL, sNil, xName, xC, xBin, xBinN, xBinT, xCall, xCallN, xNew, xTup, xLst, xLstRg, xTupRg, xRg1, xRg2, xTru, xNot, xAndT, xOrT, xAnd, xOr, xNotV, rdB, xIf, xNeg, xMet, xMet0, xMut, xMut0, aNil, aCons, vals, rdAll, DL.R.rd, oNone, oSome, xSlL, xSlT, gSet, gsNil, gsCons, gTupD, gLstD, gSubL, freeAt, isOw, kYes, List.getElem?_cons_zero, List.getElem?_cons_succ, List.set_cons_zero, List.set_cons_succ, Option.bind_some, Option.bind_none, if_true, if_false, Bool.false_eq_true, reduceIte, List.length_cons, List.length_nil, Bool.and_true, Bool.true_and, Bool.and_self, Bool.not_true, Bool.not_false, false_and, and_false, true_and, and_true, Option.isSome_some, xCallV, xCallVN, xCallB, xCh2, xCh3, isB, xDct1, xMake, sFldD, sPutD, List.map_cons, List.map_nil, wps, wp1, List.foldl_cons, List.foldl_nil]
/-! ### _law_judged -/
theorem flt_yes : (D.str "yes").flt 60 = true := by decide +kernel
theorem flt_no : (D.str "no").flt 60 = true := by decide +kernel
theorem no_yes : dEq (.str "no") (.str "yes") = some (.bl false) := by
  unfold dEq
  rw [if_pos ⟨flt_no, flt_yes⟩]
  exact congrArg (fun b => some (D.bl b)) (by decide +kernel)
theorem yes_yes : dEq (.str "yes") (.str "yes") = some (.bl true) := by
  unfold dEq
  rw [if_pos ⟨flt_yes, flt_yes⟩]
  exact congrArg (fun b => some (D.bl b)) (by decide +kernel)
theorem no_no : dNe (.str "no") (.str "no") = some (.bl false) := by
  unfold dNe
  rw [if_pos ⟨flt_no, flt_no⟩]
  exact congrArg (fun b => some (D.bl b)) (by decide +kernel)
theorem yes_ne : dNe (.str "yes") (.str "yes") = some (.bl false) := by
  unfold dNe
  rw [if_pos ⟨flt_yes, flt_yes⟩]
  exact congrArg (fun b => some (D.bl b)) (by decide +kernel)
section
variable {n m : Nat} {e : Nat → Nat × Nat}
def RJ (n m : Nat) (e : Nat → Nat × Nat) (r : Nat → Int) (s3 s4 s5 s6 s7 s8 s9 : Slot) : Ev := [.imm (.int n), .imm (.tup (edD m e)), .imm (rwD n r), s3, s4, s5, s6, s7, s8, s9]
theorem XJ1 (r : Nat → Int) {h : Nat → Nat} (H : HdOk m e h) (hm : m ≤ 1000) (s4 : Slot) : X__law_judged_1 (RJ n m e r (.imm (.tup [.str "yes", .tup (hdD m h)])) s4 .un .un .un .un .un) = some (.lst [], RJ n m e r (.imm (.tup [.str "yes", .tup (hdD m h)])) s4 .un .un .un .un .un) := by
  unfold X__law_judged_1
  have hL : dLen [.tup (edD m e)] = some (.int m) := lenT _ _
  have hfi : iRg1 (xCall dLen (aCons (xName 1) aNil)) (RJ n m e r (.imm (.tup [.str "yes", .tup (hdD m h)])) s4 .un .un .un .un .un) = some (((List.range m).map nD, none), RJ n m e r (.imm (.tup [.str "yes", .tup (hdD m h)])) s4 .un .un .un .un .un) := iRg1_nat (by unfold RJ; simp only [sSeq, sSet, sSetN, sAsg, sDrop, sRet, sRetN, sIf, sPar, sAug, sAugL, sNil, xName, xC, xBin, xBinN, xBinT, xCall, xCallN, xNew, xTup, xLst, xLstRg, xTupRg, xRg1, xRg2, xTru, xNot, xAndT, xOrT, xAnd, xOr, xNotV, rdB, xIf, xNeg, xMet, xMet0, xMut, xMut0, aNil, aCons, vals, rdAll, DL.R.rd, oNone, oSome, xSlL, xSlT, gSet, gsNil, gsCons, gTupD, gLstD, gSubL, freeAt, isOw, kYes, List.getElem?_cons_zero, List.getElem?_cons_succ, List.set_cons_zero, List.set_cons_succ, Option.bind_some, Option.bind_none, if_true, if_false, Bool.false_eq_true, reduceIte, List.length_cons, List.length_nil, Bool.and_true, Bool.true_and, Bool.and_self, Bool.not_true, Bool.not_false, false_and, and_false, true_and, and_true, Option.isSome_some, xCallV, xCallVN, xCallB, xCh2, xCh3, isB, xDct1, xMake, sFldD, sPutD, List.map_cons, List.map_nil, hL]) (by omega)
  rw [xLc_run nD (fun k => none) (List.range m) hfi rfl (by rw [List.length_range]; have := sizeLine_eq; omega) ?_]
  · rw [filt_none _ _ fun _ _ => rfl]
  · intro k hk
    have hk := List.mem_range.mp hk
    have i1 : dIx (.tup (edD m e)) (.int k) = some (pD (e k)) := ixT _ hk
    have i2 : dIx (.tup (hdD m h)) (.int k) = some (.int (h k)) := ixT _ hk
    have i3 : dIx (.tup [.str "yes", .tup (hdD m h)]) (.int 1) = some (.tup (hdD m h)) := rfl
    have i4 : dNotInA (.int (h k)) (pD (e k)) = some (.bl false) := by
      have z : dNotIn (.int (h k)) (pD (e k)) = none := rfl
      unfold dNotInA orF
      rw [z]
      have a := any_eqv (h k) [(e k).1, (e k).2]
      have b := okD_nat [(e k).1, (e k).2] (h k)
      simp only [List.map_cons, List.map_nil, nD] at a b
      unfold dNotInT pD
      simp only [b, if_true, a]
      congr 2
      have : h k ∈ [(e k).1, (e k).2] := by rcases H k hk with z | z <;> simp [z]
      rw [decide_eq_true this]
      rfl
    generalize pD (e k) = pd at i1 i4
    generalize D.tup (hdD m h) = hd at i2 i3 ⊢
    generalize D.tup [.str "yes", hd] = td at i3 ⊢
    unfold turnC K__law_judged_1 RJ
    simp only [sSeq, sSet, sSetN, sAsg, sDrop, sRet, sRetN, sIf, sPar, sAug, sAugL, sNil, xName, xC, xBin, xBinN, xBinT, xCall, xCallN, xNew, xTup, xLst, xLstRg, xTupRg, xRg1, xRg2, xTru, xNot, xAndT, xOrT, xAnd, xOr, xNotV, rdB, xIf, xNeg, xMet, xMet0, xMut, xMut0, aNil, aCons, vals, rdAll, DL.R.rd, oNone, oSome, xSlL, xSlT, gSet, gsNil, gsCons, gTupD, gLstD, gSubL, freeAt, isOw, kYes, List.getElem?_cons_zero, List.getElem?_cons_succ, List.set_cons_zero, List.set_cons_succ, Option.bind_some, Option.bind_none, if_true, if_false, Bool.false_eq_true, reduceIte, List.length_cons, List.length_nil, Bool.and_true, Bool.true_and, Bool.and_self, Bool.not_true, Bool.not_false, false_and, and_false, true_and, and_true, Option.isSome_some, xCallV, xCallVN, xCallB, xCh2, xCh3, isB, xDct1, xMake, sFldD, sPutD, List.map_cons, List.map_nil, nD, wipeE, i1, i2, i3, i4]
theorem XJ2 (r : Nat → Int) (K : List Nat) (hm : m ≤ 1000) (s4 s5 s6 s9 : Slot) : X__law_judged_2 (RJ n m e r (.imm (.tup [.str "no", sD K])) s4 s5 s6 .un .un s9) = some (.lst (((List.range m).filter (ins e K)).map fun _ => .int 1), RJ n m e r (.imm (.tup [.str "no", sD K])) s4 s5 s6 .un .un s9) := by
  unfold X__law_judged_2
  have hfi : iVal (xName 1) (RJ n m e r (.imm (.tup [.str "no", sD K])) s4 s5 s6 .un .un s9) = some (((List.range m).map fun k => pD (e k), none), RJ n m e r (.imm (.tup [.str "no", sD K])) s4 s5 s6 .un .un s9) := rfl
  rw [xLc_run (fun k => pD (e k)) (fun k => if ins e K k = true then some (.int 1) else none) (List.range m) hfi rfl (by rw [List.length_range]; have := sizeLine_eq; omega) ?_]
  · rw [filterMap_if (ins e K) fun _ => D.int 1]
  · intro k hk
    have i1 : dInA (.int (e k).1) (sD K) = some (.bl (decide ((e k).1 ∈ K))) := inT _ _
    have i2 : dInA (.int (e k).2) (sD K) = some (.bl (decide ((e k).2 ∈ K))) := inT _ _
    have i3 : dIx (.tup [.str "no", sD K]) (.int 1) = some (sD K) := rfl
    generalize D.tup [.str "no", sD K] = td at i3 ⊢
    unfold ins
    generalize decide ((e k).1 ∈ K) = b1 at i1 ⊢
    generalize decide ((e k).2 ∈ K) = b2 at i2 ⊢
    unfold turnC K__law_judged_2 E__law_judged_2 RJ
    cases b1 with
    | false => simp only [sSeq, sSet, sSetN, sAsg, sDrop, sRet, sRetN, sIf, sPar, sAug, sAugL, sNil, xName, xC, xBin, xBinN, xBinT, xCall, xCallN, xNew, xTup, xLst, xLstRg, xTupRg, xRg1, xRg2, xTru, xNot, xAndT, xOrT, xAnd, xOr, xNotV, rdB, xIf, xNeg, xMet, xMet0, xMut, xMut0, aNil, aCons, vals, rdAll, DL.R.rd, oNone, oSome, xSlL, xSlT, gSet, gsNil, gsCons, gTupD, gLstD, gSubL, freeAt, isOw, kYes, List.getElem?_cons_zero, List.getElem?_cons_succ, List.set_cons_zero, List.set_cons_succ, Option.bind_some, Option.bind_none, if_true, if_false, Bool.false_eq_true, reduceIte, List.length_cons, List.length_nil, Bool.and_true, Bool.true_and, Bool.and_self, Bool.not_true, Bool.not_false, false_and, and_false, true_and, and_true, Option.isSome_some, xCallV, xCallVN, xCallB, xCh2, xCh3, isB, xDct1, xMake, sFldD, sPutD, List.map_cons, List.map_nil, pD, wipeE, i1, i2, i3, Bool.false_and]
    | true =>
      cases b2 with
      | false => simp only [sSeq, sSet, sSetN, sAsg, sDrop, sRet, sRetN, sIf, sPar, sAug, sAugL, sNil, xName, xC, xBin, xBinN, xBinT, xCall, xCallN, xNew, xTup, xLst, xLstRg, xTupRg, xRg1, xRg2, xTru, xNot, xAndT, xOrT, xAnd, xOr, xNotV, rdB, xIf, xNeg, xMet, xMet0, xMut, xMut0, aNil, aCons, vals, rdAll, DL.R.rd, oNone, oSome, xSlL, xSlT, gSet, gsNil, gsCons, gTupD, gLstD, gSubL, freeAt, isOw, kYes, List.getElem?_cons_zero, List.getElem?_cons_succ, List.set_cons_zero, List.set_cons_succ, Option.bind_some, Option.bind_none, if_true, if_false, Bool.false_eq_true, reduceIte, List.length_cons, List.length_nil, Bool.and_true, Bool.true_and, Bool.and_self, Bool.not_true, Bool.not_false, false_and, and_false, true_and, and_true, Option.isSome_some, xCallV, xCallVN, xCallB, xCh2, xCh3, isB, xDct1, xMake, sFldD, sPutD, List.map_cons, List.map_nil, pD, wipeE, i1, i2, i3]
      | true => simp only [sSeq, sSet, sSetN, sAsg, sDrop, sRet, sRetN, sIf, sPar, sAug, sAugL, sNil, xName, xC, xBin, xBinN, xBinT, xCall, xCallN, xNew, xTup, xLst, xLstRg, xTupRg, xRg1, xRg2, xTru, xNot, xAndT, xOrT, xAnd, xOr, xNotV, rdB, xIf, xNeg, xMet, xMet0, xMut, xMut0, aNil, aCons, vals, rdAll, DL.R.rd, oNone, oSome, xSlL, xSlT, gSet, gsNil, gsCons, gTupD, gLstD, gSubL, freeAt, isOw, kYes, List.getElem?_cons_zero, List.getElem?_cons_succ, List.set_cons_zero, List.set_cons_succ, Option.bind_some, Option.bind_none, if_true, if_false, Bool.false_eq_true, reduceIte, List.length_cons, List.length_nil, Bool.and_true, Bool.true_and, Bool.and_self, Bool.not_true, Bool.not_false, false_and, and_false, true_and, and_true, Option.isSome_some, xCallV, xCallVN, xCallB, xCh2, xCh3, isB, xDct1, xMake, sFldD, sPutD, List.map_cons, List.map_nil, pD, wipeE, i1, i2, i3]
theorem XJ3 (r : Nat → Int) (K : List Nat) (hK : ∀ v ∈ K, v < n) (hl : K.length ≤ 1000) (s4 s5 s6 s7 s8 : Slot) : X__law_judged_3 (RJ n m e r (.imm (.tup [.str "no", sD K])) s4 s5 s6 s7 s8 .un) = some (.lst ((K.map r).map .int), RJ n m e r (.imm (.tup [.str "no", sD K])) s4 s5 s6 s7 s8 .un) := by
  unfold X__law_judged_3
  have i3 : dIx (.tup [.str "no", sD K]) (.int 1) = some (sD K) := rfl
  have hfi : iVal (xBin dIx (xName 3) (xC (.int 1))) (RJ n m e r (.imm (.tup [.str "no", sD K])) s4 s5 s6 s7 s8 .un) = some ((K.map nD, none), RJ n m e r (.imm (.tup [.str "no", sD K])) s4 s5 s6 s7 s8 .un) := by
    unfold iVal RJ
    simp only [sSeq, sSet, sSetN, sAsg, sDrop, sRet, sRetN, sIf, sPar, sAug, sAugL, sNil, xName, xC, xBin, xBinN, xBinT, xCall, xCallN, xNew, xTup, xLst, xLstRg, xTupRg, xRg1, xRg2, xTru, xNot, xAndT, xOrT, xAnd, xOr, xNotV, rdB, xIf, xNeg, xMet, xMet0, xMut, xMut0, aNil, aCons, vals, rdAll, DL.R.rd, oNone, oSome, xSlL, xSlT, gSet, gsNil, gsCons, gTupD, gLstD, gSubL, freeAt, isOw, kYes, List.getElem?_cons_zero, List.getElem?_cons_succ, List.set_cons_zero, List.set_cons_succ, Option.bind_some, Option.bind_none, if_true, if_false, Bool.false_eq_true, reduceIte, List.length_cons, List.length_nil, Bool.and_true, Bool.true_and, Bool.and_self, Bool.not_true, Bool.not_false, false_and, and_false, true_and, and_true, Option.isSome_some, xCallV, xCallVN, xCallB, xCh2, xCh3, isB, xDct1, xMake, sFldD, sPutD, List.map_cons, List.map_nil, i3]
    rfl
  rw [xLc_run nD (fun v => some (.int (r v))) K hfi rfl (by have := sizeLine_eq; omega) ?_]
  · simp [List.filterMap_eq_map, Function.comp]
  · intro v hv
    have i1 : dIx (rwD n r) (.int v) = some (.int (r v)) := ixT _ (hK v hv)
    unfold turnC E__law_judged_3 RJ
    simp only [sSeq, sSet, sSetN, sAsg, sDrop, sRet, sRetN, sIf, sPar, sAug, sAugL, sNil, xName, xC, xBin, xBinN, xBinT, xCall, xCallN, xNew, xTup, xLst, xLstRg, xTupRg, xRg1, xRg2, xTru, xNot, xAndT, xOrT, xAnd, xOr, xNotV, rdB, xIf, xNeg, xMet, xMet0, xMut, xMut0, aNil, aCons, vals, rdAll, DL.R.rd, oNone, oSome, xSlL, xSlT, gSet, gsNil, gsCons, gTupD, gLstD, gSubL, freeAt, isOw, kYes, List.getElem?_cons_zero, List.getElem?_cons_succ, List.set_cons_zero, List.set_cons_succ, Option.bind_some, Option.bind_none, if_true, if_false, Bool.false_eq_true, reduceIte, List.length_cons, List.length_nil, Bool.and_true, Bool.true_and, Bool.and_self, Bool.not_true, Bool.not_false, false_and, and_false, true_and, and_true, Option.isSome_some, xCallV, xCallVN, xCallB, xCh2, xCh3, isB, xDct1, xMake, sFldD, sPutD, List.map_cons, List.map_nil, nD, wipeE, i1]
theorem ones_len (l : List Nat) : dLen [.lst (l.map fun _ => .int 1)] = some (.int (l.length : Nat)) := by
  show some (D.int _) = _
  rw [List.length_map]
theorem usort_self {K : List Nat} (h : K.Pairwise (· < ·)) : usort (K.map fun x : Nat => (x : Int)) = K.map fun x : Nat => (x : Int) :=
  lt_uniq (usort_lt _) (List.pairwise_map.mpr (h.imp fun {a b} h => by omega)) fun z => usort_mem z _
theorem judged_eq (G : GrOk n m e) (hn : n < 40) (hm : m ≤ 100) (r : Nat → Int) (hr : ∀ v, v < n → -3 ≤ r v) : m__law_judged [.imm (.int n), .imm (.tup (edD m e)), .imm (rwD n r)] = some (.bl true, [.imm (.int n), .imm (.tup (edD m e)), .imm (rwD n r)]) := by
  obtain ⟨d, hd, ed⟩ := dir_eq G hn hm r hr
  have ini := init_eq G (by omega : m ≤ 1000)
  have s1 : sSet 3 (xCallV m_directed (aCons (xNew (xMake "Graphic" m_Graphic__init (aCons (xName 0) (aCons (xName 1) aNil)))) (aCons (xName 2) aNil))) (RJ n m e r .un .un .un .un .un .un .un) = some (.nx (RJ n m e r (.imm d) .un .un .un .un .un .un)) := by
    unfold RJ
    simp only [sSeq, sSet, sSetN, sAsg, sDrop, sRet, sRetN, sIf, sPar, sAug, sAugL, sNil, xName, xC, xBin, xBinN, xBinT, xCall, xCallN, xNew, xTup, xLst, xLstRg, xTupRg, xRg1, xRg2, xTru, xNot, xAndT, xOrT, xAnd, xOr, xNotV, rdB, xIf, xNeg, xMet, xMet0, xMut, xMut0, aNil, aCons, vals, rdAll, DL.R.rd, oNone, oSome, xSlL, xSlT, gSet, gsNil, gsCons, gTupD, gLstD, gSubL, freeAt, isOw, kYes, List.getElem?_cons_zero, List.getElem?_cons_succ, List.set_cons_zero, List.set_cons_succ, Option.bind_some, Option.bind_none, if_true, if_false, Bool.false_eq_true, reduceIte, List.length_cons, List.length_nil, Bool.and_true, Bool.true_and, Bool.and_self, Bool.not_true, Bool.not_false, false_and, and_false, true_and, and_true, Option.isSome_some, xCallV, xCallVN, xCallB, xCh2, xCh3, isB, xDct1, xMake, sFldD, sPutD, List.map_cons, List.map_nil, ini, ed]
  have k1 : kitB "tuple" "tuple" = some true := by decide +kernel
  have go : ∀ {ρ' : Ev}, b__law_judged (RJ n m e r .un .un .un .un .un .un .un) = some (.rt (.bl true) false (.imm (.int n) :: .imm (.tup (edD m e)) :: .imm (rwD n r) :: ρ')) → m__law_judged [.imm (.int n), .imm (.tup (edD m e)), .imm (rwD n r)] = some (.bl true, [.imm (.int n), .imm (.tup (edD m e)), .imm (rwD n r)]) := fun e => fnD_rt (b := false) e rfl (.inl rfl) rfl
  have sT := sumT_eq n r
  have hL : dLen [.tup (edD m e)] = some (.int m) := lenT _ _
  cases hd with
  | none hs =>
    have b1 : (sumL (List.range n) r == (m : Nat)) = false := by rw [beq_eq_false_iff_ne]; exact hs
    have l2 : dLen [.tup [.str "no", .non]] = some (.int 2) := rfl
    have ty : tyD (.tup [.str "no", .non]) = "tuple" := rfl
    have io : DL.isObj (.tup [.str "no", .non]) = false := rfl
    have x0 : dIx (.tup [.str "no", .non]) (.int 0) = some (.str "no") := rfl
    have x1 : dIx (.tup [.str "no", .non]) (.int 1) = some .non := rfl
    have q1 := no_yes
    have q2 := no_no
    have q3 : dIs .non .non = some (.bl true) := rfl
    generalize D.tup [.str "no", .non] = td at *
    refine go (ρ' := [.imm td, .un, .un, .un, .un, .un, .un]) ?_
    unfold b__law_judged
    refine step _ s1 ?_
    unfold RJ
    simp only [sSeq, sSet, sSetN, sAsg, sDrop, sRet, sRetN, sIf, sPar, sAug, sAugL, sNil, xName, xC, xBin, xBinN, xBinT, xCall, xCallN, xNew, xTup, xLst, xLstRg, xTupRg, xRg1, xRg2, xTru, xNot, xAndT, xOrT, xAnd, xOr, xNotV, rdB, xIf, xNeg, xMet, xMet0, xMut, xMut0, aNil, aCons, vals, rdAll, DL.R.rd, oNone, oSome, xSlL, xSlT, gSet, gsNil, gsCons, gTupD, gLstD, gSubL, freeAt, isOw, kYes, List.getElem?_cons_zero, List.getElem?_cons_succ, List.set_cons_zero, List.set_cons_succ, Option.bind_some, Option.bind_none, if_true, if_false, Bool.false_eq_true, reduceIte, List.length_cons, List.length_nil, Bool.and_true, Bool.true_and, Bool.and_self, Bool.not_true, Bool.not_false, false_and, and_false, true_and, and_true, Option.isSome_some, xCallV, xCallVN, xCallB, xCh2, xCh3, isB, xDct1, xMake, sFldD, sPutD, List.map_cons, List.map_nil, xIsi, io, ty, k1, dTru, l2, dNe_int, x0, x1, q1, q2, sT, hL, b1, q3, beq_self_eq_true]
  | yes h H hsc hs =>
    have l2 : dLen [.tup [.str "yes", .tup (hdD m h)]] = some (.int 2) := rfl
    have ty : tyD (.tup [.str "yes", .tup (hdD m h)]) = "tuple" := rfl
    have io : DL.isObj (.tup [.str "yes", .tup (hdD m h)]) = false := rfl
    have ty2 : tyD (.tup (hdD m h)) = "tuple" := rfl
    have io2 : DL.isObj (.tup (hdD m h)) = false := rfl
    have x0 : dIx (.tup [.str "yes", .tup (hdD m h)]) (.int 0) = some (.str "yes") := rfl
    have x1 : dIx (.tup [.str "yes", .tup (hdD m h)]) (.int 1) = some (.tup (hdD m h)) := rfl
    have q1 := yes_yes
    have l3 : dLen [.tup (hdD m h)] = some (.int m) := lenT _ _
    have j1 := fun s4 => XJ1 (n := n) r H (by omega) s4
    have e0 : dEq (.lst []) (.lst []) = some (.bl true) := rfl
    have g0 : Grd (0 ≤ sizeLine) = True := grdN (by omega)
    have ls := lawsc_eq (n := n) H (by omega) (by omega) (wr := .tup) (.inr rfl)
    have c2 : dTupOf [rwD n r] = some (rwD n r) := rfl
    have c1 : dEq (scD n m e h) (rwD n r) = some (.bl true) := by
      rw [scD_eq, show dEq (rwD n (sc e m h)) (rwD n r) = some (.bl (sameN n (sc e m h) r)) from dEq_tn n _ _, sameN_iff.mpr hsc]
    generalize hhd : D.tup (hdD m h) = hd at *
    generalize D.tup [.str "yes", hd] = td at *
    refine go (ρ' := [.imm td, .imm (.bl true), .un, .un, .un, .un, .un]) ?_
    unfold b__law_judged
    refine step _ s1 ?_
    unfold RJ at j1 ⊢
    simp only [sSeq, sSet, sSetN, sAsg, sDrop, sRet, sRetN, sIf, sPar, sAug, sAugL, sNil, xName, xC, xBin, xBinN, xBinT, xCall, xCallN, xNew, xTup, xLst, xLstRg, xTupRg, xRg1, xRg2, xTru, xNot, xAndT, xOrT, xAnd, xOr, xNotV, rdB, xIf, xNeg, xMet, xMet0, xMut, xMut0, aNil, aCons, vals, rdAll, DL.R.rd, oNone, oSome, xSlL, xSlT, gSet, gsNil, gsCons, gTupD, gLstD, gSubL, freeAt, isOw, kYes, List.getElem?_cons_zero, List.getElem?_cons_succ, List.set_cons_zero, List.set_cons_succ, Option.bind_some, Option.bind_none, if_true, if_false, Bool.false_eq_true, reduceIte, List.length_cons, List.length_nil, Bool.and_true, Bool.true_and, Bool.and_self, Bool.not_true, Bool.not_false, false_and, and_false, true_and, and_true, Option.isSome_some, xCallV, xCallVN, xCallB, xCh2, xCh3, isB, xDct1, xMake, sFldD, sPutD, List.map_cons, List.map_nil, xIsi, io, ty, io2, ty2, k1, dTru, l2, dNe_int, dEq_int, x0, x1, q1, l3, hL, beq_self_eq_true, j1, e0, g0, ls, c2, c1]
  | no K T hs =>
    obtain ⟨T1, T2, T3⟩ := T
    have b1 : (sumL (List.range n) r == (m : Nat)) = true := by rw [beq_iff_eq]; exact hs
    have kl := pw_len T1 T2
    have l2 : dLen [.tup [.str "no", sD K]] = some (.int 2) := rfl
    have ty : tyD (.tup [.str "no", sD K]) = "tuple" := rfl
    have io : DL.isObj (.tup [.str "no", sD K]) = false := rfl
    have ty2 : tyD (sD K) = "tuple" := rfl
    have io2 : DL.isObj (sD K) = false := rfl
    have x0 : dIx (.tup [.str "no", sD K]) (.int 0) = some (.str "no") := rfl
    have x1 : dIx (.tup [.str "no", sD K]) (.int 1) = some (sD K) := rfl
    have q1 := no_yes
    have q2 := no_no
    have lo : dListOf [sD K] = some (.lst (K.map nD)) := rfl
    have us : ∀ {f : FE} {ρ ρ' : Ev}, f ρ = some (.val (sD K), ρ') → xSortSet f ρ = some (.lst (K.map nD), ρ') := fun {f ρ ρ'} hf => by
      unfold xSortSet sD at *
      simp only [hf, Option.bind_some, DL.R.rd, intsOf_nat]
      rw [if_pos (show Grd ((K.map fun x : Nat => (x : Int)).length < 60) from by show _ < _; rw [List.length_map]; omega), usort_self T1, ← nats_ints]
    have nn : dNe (.lst (K.map nD)) (.lst (K.map nD)) = some (.bl false) := by rw [dNe_nats, beq_self_eq_true]; rfl
    have j2 := XJ2 (n := n) (e := e) r K (by omega : m ≤ 1000) .un .un .un .un
    have o1 := ones_len ((List.range m).filter (ins e K))
    rw [cntS_filter] at o1
    have j3 := XJ3 (m := m) (e := e) r K T2 (by omega) .un (.imm (.int (cntS (ins e K) m : Nat))) .un .un .un
    have s3 : dSumA [.lst ((K.map r).map .int)] = some (.int (sumL K r)) := by
      unfold dSumA orC dSum
      simp only [intsOf_map, Option.bind_some, sumL]
    have gt : decide (sumL K r < (cntS (ins e K) m : Nat)) = true := decide_eq_true T3
    clear ed
    replace s1 : sSet 3 (xCallV m_directed (aCons (xNew (xMake "Graphic" m_Graphic__init (aCons (xName 0) (aCons (xName 1) aNil)))) (aCons (xName 2) aNil))) (RJ n m e r .un .un .un .un .un .un .un) = some (.nx (RJ n m e r (.imm (.tup [.str "no", sD K])) .un .un .un .un .un .un)) := s1
    generalize sD K = kd at *
    generalize D.tup [.str "no", kd] = td at *
    generalize K.map nD = kn at *
    generalize ((K.map r).map D.int) = kr at *
    generalize (((List.range m).filter (ins e K)).map fun _ => D.int 1) = ones at *
    have us1 : ∀ ρ, xSortSet (xBin dIx (xName 3) (xC (.int 1))) (.imm (.int n) :: .imm (.tup (edD m e)) :: .imm (rwD n r) :: .imm td :: ρ) = some (.lst kn, .imm (.int n) :: .imm (.tup (edD m e)) :: .imm (rwD n r) :: .imm td :: ρ) := fun ρ => us (by simp only [sSeq, sSet, sSetN, sAsg, sDrop, sRet, sRetN, sIf, sPar, sAug, sAugL, sNil, xName, xC, xBin, xBinN, xBinT, xCall, xCallN, xNew, xTup, xLst, xLstRg, xTupRg, xRg1, xRg2, xTru, xNot, xAndT, xOrT, xAnd, xOr, xNotV, rdB, xIf, xNeg, xMet, xMet0, xMut, xMut0, aNil, aCons, vals, rdAll, DL.R.rd, oNone, oSome, xSlL, xSlT, gSet, gsNil, gsCons, gTupD, gLstD, gSubL, freeAt, isOw, kYes, List.getElem?_cons_zero, List.getElem?_cons_succ, List.set_cons_zero, List.set_cons_succ, Option.bind_some, Option.bind_none, if_true, if_false, Bool.false_eq_true, reduceIte, List.length_cons, List.length_nil, Bool.and_true, Bool.true_and, Bool.and_self, Bool.not_true, Bool.not_false, false_and, and_false, true_and, and_true, Option.isSome_some, xCallV, xCallVN, xCallB, xCh2, xCh3, isB, xDct1, xMake, sFldD, sPutD, List.map_cons, List.map_nil, x1])
    refine go (ρ' := [.imm td, .un, .imm (.int (cntS (ins e K) m : Nat)), .un, .un, .un, .un]) ?_
    unfold b__law_judged
    refine step _ s1 ?_
    unfold RJ at j2 j3 ⊢
    simp only [sSeq, sSet, sSetN, sAsg, sDrop, sRet, sRetN, sIf, sPar, sAug, sAugL, sNil, xName, xC, xBin, xBinN, xBinT, xCall, xCallN, xNew, xTup, xLst, xLstRg, xTupRg, xRg1, xRg2, xTru, xNot, xAndT, xOrT, xAnd, xOr, xNotV, rdB, xIf, xNeg, xMet, xMet0, xMut, xMut0, aNil, aCons, vals, rdAll, DL.R.rd, oNone, oSome, xSlL, xSlT, gSet, gsNil, gsCons, gTupD, gLstD, gSubL, freeAt, isOw, kYes, List.getElem?_cons_zero, List.getElem?_cons_succ, List.set_cons_zero, List.set_cons_succ, Option.bind_some, Option.bind_none, if_true, if_false, Bool.false_eq_true, reduceIte, List.length_cons, List.length_nil, Bool.and_true, Bool.true_and, Bool.and_self, Bool.not_true, Bool.not_false, false_and, and_false, true_and, and_true, Option.isSome_some, xCallV, xCallVN, xCallB, xCh2, xCh3, isB, xDct1, xMake, sFldD, sPutD, List.map_cons, List.map_nil, xIsi, io, ty, io2, ty2, k1, dTru, l2, dNe_int, x0, x1, q1, q2, sT, hL, b1, lo, us1, nn, j2, o1, j3, s3, dGt_int, gt, beq_self_eq_true]
end
end K59

set_option maxRecDepth 100000
set_option maxHeartbeats 4000000
namespace K59
open PySem PySem.Spec PyProof.Rows L2 DL
/-! ### the law as a whole -/
theorem start_eq (ns : List Int) : m__law_start [.imm (.frz (ns.map .int))] = some (tape ns 0 0 7, [.imm (.frz (ns.map .int))]) := by
  have g4 : Grd (4 ≤ sizeLine) = True := grd (by have := sizeLine_eq; omega)
  refine fnD_rt (b := true) (ρ' := [.imm (.frz (ns.map .int))]) ?_ rfl (.inr rfl) rfl
  show b__law_start [.imm (.frz (ns.map .int))] = _
  unfold b__law_start tape
  simp only [sSeq, sSet, sSetN, sAsg, sDrop, sRet, sRetN, sIf, sPar, sAug, sAugL, sNil, xName, xC, xBin, xBinN, xBinT, xCall, xCallN, xNew, xTup, xLst, xLstRg, xTupRg, xRg1, xRg2, xTru, xNot, xAndT, xOrT, xAnd, xOr, xNotV, rdB, xIf, xNeg, xMet, xMet0, xMut, xMut0, aNil, aCons, vals, rdAll, DL.R.rd, oNone, oSome, xSlL, xSlT, gSet, gsNil, gsCons, gTupD, gLstD, gSubL, freeAt, isOw, kYes, List.getElem?_cons_zero, List.getElem?_cons_succ, List.set_cons_zero, List.set_cons_succ, Option.bind_some, Option.bind_none, if_true, if_false, Bool.false_eq_true, reduceIte, List.length_cons, List.length_nil, Bool.and_true, Bool.true_and, Bool.and_self, Bool.not_true, Bool.not_false, false_and, and_false, true_and, and_true, Option.isSome_some, xCallV, xCallVN, xCallB, xCh2, xCh3, isB, xDct1, xMake, sFldD, sPutD, List.map_cons, List.map_nil, Nat.reduceAdd, g4]
  rfl
def RW (a0 t : D) (n m : Nat) (e : Nat → Nat × Nat) (s5 s6 s7 s8 s9 s10 s11 s12 s13 s14 s15 s16 s17 s18 : Slot) : Ev := [.imm a0, .ow false t, .imm (.int n), .imm (.tup (edD m e)), .imm (gO n m e), s5, s6, s7, s8, s9, s10, s11, s12, s13, s14, s15, s16, s17, s18, .un, .un, .un, .un]
section
variable {n m : Nat} {e : Nat → Nat × Nat}
theorem XW1 (a0 t : D) (s : List Nat) (hm : m ≤ 1000) (s5 s6 s7 s9 : Slot) : X_law_1 (RW a0 t n m e s5 s6 s7 (.imm (sD s)) s9 .un .un .un .un .un .un .un .un .un) = some (.lst (((List.range m).filter (ins e s)).map fun _ => .int 1), RW a0 t n m e s5 s6 s7 (.imm (sD s)) s9 .un .un .un .un .un .un .un .un .un) := by
  unfold X_law_1
  have hfi : iVal (xName 3) (RW a0 t n m e s5 s6 s7 (.imm (sD s)) s9 .un .un .un .un .un .un .un .un .un) = some (((List.range m).map fun k => pD (e k), none), RW a0 t n m e s5 s6 s7 (.imm (sD s)) s9 .un .un .un .un .un .un .un .un .un) := rfl
  rw [xLc_run (fun k => pD (e k)) (fun k => if ins e s k = true then some (.int 1) else none) (List.range m) hfi rfl (by rw [List.length_range]; have := sizeLine_eq; omega) ?_]
  · rw [filterMap_if (ins e s) fun _ => D.int 1]
  · intro k hk
    have i1 : dInA (.int (e k).1) (sD s) = some (.bl (decide ((e k).1 ∈ s))) := inT _ _
    have i2 : dInA (.int (e k).2) (sD s) = some (.bl (decide ((e k).2 ∈ s))) := inT _ _
    generalize sD s = sd at i1 i2 ⊢
    unfold ins
    generalize decide ((e k).1 ∈ s) = b1 at i1 ⊢
    generalize decide ((e k).2 ∈ s) = b2 at i2 ⊢
    unfold turnC K_law_1 E_law_1 RW
    cases b1 with
    | false => simp only [sSeq, sSet, sSetN, sAsg, sDrop, sRet, sRetN, sIf, sPar, sAug, sAugL, sNil, xName, xC, xBin, xBinN, xBinT, xCall, xCallN, xNew, xTup, xLst, xLstRg, xTupRg, xRg1, xRg2, xTru, xNot, xAndT, xOrT, xAnd, xOr, xNotV, rdB, xIf, xNeg, xMet, xMet0, xMut, xMut0, aNil, aCons, vals, rdAll, DL.R.rd, oNone, oSome, xSlL, xSlT, gSet, gsNil, gsCons, gTupD, gLstD, gSubL, freeAt, isOw, kYes, List.getElem?_cons_zero, List.getElem?_cons_succ, List.set_cons_zero, List.set_cons_succ, Option.bind_some, Option.bind_none, if_true, if_false, Bool.false_eq_true, reduceIte, List.length_cons, List.length_nil, Bool.and_true, Bool.true_and, Bool.and_self, Bool.not_true, Bool.not_false, false_and, and_false, true_and, and_true, Option.isSome_some, xCallV, xCallVN, xCallB, xCh2, xCh3, isB, xDct1, xMake, sFldD, sPutD, List.map_cons, List.map_nil, pD, wipeE, i1, i2, Bool.false_and]
    | true =>
      cases b2 with
      | false => simp only [sSeq, sSet, sSetN, sAsg, sDrop, sRet, sRetN, sIf, sPar, sAug, sAugL, sNil, xName, xC, xBin, xBinN, xBinT, xCall, xCallN, xNew, xTup, xLst, xLstRg, xTupRg, xRg1, xRg2, xTru, xNot, xAndT, xOrT, xAnd, xOr, xNotV, rdB, xIf, xNeg, xMet, xMet0, xMut, xMut0, aNil, aCons, vals, rdAll, DL.R.rd, oNone, oSome, xSlL, xSlT, gSet, gsNil, gsCons, gTupD, gLstD, gSubL, freeAt, isOw, kYes, List.getElem?_cons_zero, List.getElem?_cons_succ, List.set_cons_zero, List.set_cons_succ, Option.bind_some, Option.bind_none, if_true, if_false, Bool.false_eq_true, reduceIte, List.length_cons, List.length_nil, Bool.and_true, Bool.true_and, Bool.and_self, Bool.not_true, Bool.not_false, false_and, and_false, true_and, and_true, Option.isSome_some, xCallV, xCallVN, xCallB, xCh2, xCh3, isB, xDct1, xMake, sFldD, sPutD, List.map_cons, List.map_nil, pD, wipeE, i1, i2]
      | true => simp only [sSeq, sSet, sSetN, sAsg, sDrop, sRet, sRetN, sIf, sPar, sAug, sAugL, sNil, xName, xC, xBin, xBinN, xBinT, xCall, xCallN, xNew, xTup, xLst, xLstRg, xTupRg, xRg1, xRg2, xTru, xNot, xAndT, xOrT, xAnd, xOr, xNotV, rdB, xIf, xNeg, xMet, xMet0, xMut, xMut0, aNil, aCons, vals, rdAll, DL.R.rd, oNone, oSome, xSlL, xSlT, gSet, gsNil, gsCons, gTupD, gLstD, gSubL, freeAt, isOw, kYes, List.getElem?_cons_zero, List.getElem?_cons_succ, List.set_cons_zero, List.set_cons_succ, Option.bind_some, Option.bind_none, if_true, if_false, Bool.false_eq_true, reduceIte, List.length_cons, List.length_nil, Bool.and_true, Bool.true_and, Bool.and_self, Bool.not_true, Bool.not_false, false_and, and_false, true_and, and_true, Option.isSome_some, xCallV, xCallVN, xCallB, xCh2, xCh3, isB, xDct1, xMake, sFldD, sPutD, List.map_cons, List.map_nil, pD, wipeE, i1, i2]
theorem XW2 (a0 t : D) (r : Nat → Int) (s : List Nat) (hs : ∀ v ∈ s, v < n) (hl : s.length ≤ 1000) (s5 s7 s9 : Slot) : X_law_2 (RW a0 t n m e s5 (.imm (rwD n r)) s7 (.imm (sD s)) s9 .un .un .un .un .un .un .un .un .un) = some (.lst ((s.map r).map .int), RW a0 t n m e s5 (.imm (rwD n r)) s7 (.imm (sD s)) s9 .un .un .un .un .un .un .un .un .un) := by
  unfold X_law_2
  have hfi : iVal (xName 8) (RW a0 t n m e s5 (.imm (rwD n r)) s7 (.imm (sD s)) s9 .un .un .un .un .un .un .un .un .un) = some ((s.map nD, none), RW a0 t n m e s5 (.imm (rwD n r)) s7 (.imm (sD s)) s9 .un .un .un .un .un .un .un .un .un) := rfl
  rw [xLc_run nD (fun v => some (.int (r v))) s hfi rfl (by have := sizeLine_eq; omega) ?_]
  · simp [List.filterMap_eq_map, Function.comp]
  · intro v hv
    have i1 : dIx (rwD n r) (.int v) = some (.int (r v)) := ixT _ (hs v hv)
    unfold turnC E_law_2 RW
    simp only [sSeq, sSet, sSetN, sAsg, sDrop, sRet, sRetN, sIf, sPar, sAug, sAugL, sNil, xName, xC, xBin, xBinN, xBinT, xCall, xCallN, xNew, xTup, xLst, xLstRg, xTupRg, xRg1, xRg2, xTru, xNot, xAndT, xOrT, xAnd, xOr, xNotV, rdB, xIf, xNeg, xMet, xMet0, xMut, xMut0, aNil, aCons, vals, rdAll, DL.R.rd, oNone, oSome, xSlL, xSlT, gSet, gsNil, gsCons, gTupD, gLstD, gSubL, freeAt, isOw, kYes, List.getElem?_cons_zero, List.getElem?_cons_succ, List.set_cons_zero, List.set_cons_succ, Option.bind_some, Option.bind_none, if_true, if_false, Bool.false_eq_true, reduceIte, List.length_cons, List.length_nil, Bool.and_true, Bool.true_and, Bool.and_self, Bool.not_true, Bool.not_false, false_and, and_false, true_and, and_true, Option.isSome_some, xCallV, xCallVN, xCallB, xCh2, xCh3, isB, xDct1, xMake, sFldD, sPutD, List.map_cons, List.map_nil, nD, wipeE, i1]
/-- a row is one of scores, by trying -/
def setOk (m : Nat) (e : Nat → Nat × Nat) (r : Nat → Int) (s : List Nat) : Bool := decide (((cntS (ins e s) m : Nat) : Int) ≤ sumL s r)
def rightF (n m : Nat) (e : Nat → Nat × Nat) (r : Nat → Int) : Bool := (sumL (List.range n) r == (m : Nat)) && (setsF n).all (setOk m e r)
theorem LW1 (a0 t : D) (r : Nat → Int) (hn : n ≤ 5) (hm : m ≤ 1000) (s5 : Slot) (b0 : Bool) : L_law_1 (RW a0 t n m e s5 (.imm (rwD n r)) (.imm (.bl b0)) .un .un .un .un .un .un .un .un .un .un .un) = some (.nx (RW a0 t n m e s5 (.imm (rwD n r)) (.imm (.bl (b0 && (setsF n).all (setOk m e r)))) .un .un .un .un .un .un .un .un .un .un .un)) := by
  have es := sets_eq n hn
  have hfi : iVal (xCallV m__law_sets (aCons (xName 2) aNil)) (RW a0 t n m e s5 (.imm (rwD n r)) (.imm (.bl b0)) .un .un .un .un .un .un .un .un .un .un .un) = some (((setsF n).map sD, none), RW a0 t n m e s5 (.imm (rwD n r)) (.imm (.bl b0)) .un .un .un .un .un .un .un .un .un .un .un) := by
    unfold iVal RW
    simp only [sSeq, sSet, sSetN, sAsg, sDrop, sRet, sRetN, sIf, sPar, sAug, sAugL, sNil, xName, xC, xBin, xBinN, xBinT, xCall, xCallN, xNew, xTup, xLst, xLstRg, xTupRg, xRg1, xRg2, xTru, xNot, xAndT, xOrT, xAnd, xOr, xNotV, rdB, xIf, xNeg, xMet, xMet0, xMut, xMut0, aNil, aCons, vals, rdAll, DL.R.rd, oNone, oSome, xSlL, xSlT, gSet, gsNil, gsCons, gTupD, gLstD, gSubL, freeAt, isOw, kYes, List.getElem?_cons_zero, List.getElem?_cons_succ, List.set_cons_zero, List.set_cons_succ, Option.bind_some, Option.bind_none, if_true, if_false, Bool.false_eq_true, reduceIte, List.length_cons, List.length_nil, Bool.and_true, Bool.true_and, Bool.and_self, Bool.not_true, Bool.not_false, false_and, and_false, true_and, and_true, Option.isSome_some, xCallV, xCallVN, xCallB, xCh2, xCh3, isB, xDct1, xMake, sFldD, sPutD, List.map_cons, List.map_nil, es]
    rfl
  have run := sFor_run (tmp := [8, 9]) (g := gSet 8) (bd := B_law_1) sD (fun b : Bool => RW a0 t n m e s5 (.imm (rwD n r)) (.imm (.bl b)) .un .un .un .un .un .un .un .un .un .un .un) (fun b s => b && setOk m e r s) (fun _ _ => True) (setsF n) b0 hfi trivial fun _ s b hs _ => ⟨trivial, ?_⟩
  · have fold : ∀ (xs : List (List Nat)) (b : Bool), xs.foldl (fun b s => b && setOk m e r s) b = (b && xs.all (setOk m e r)) := by
      intro xs
      induction xs with
      | nil => intro b; simp
      | cons x xs ih => intro b; rw [List.foldl_cons, ih, List.all_cons, Bool.and_assoc]
    rw [fold] at run
    exact run.1
  · obtain ⟨p1, p2⟩ := sets_ok.mp hs
    have kl := pw_len p1 p2
    have x1 := XW1 (n := n) (m := m) (e := e) a0 t s hm s5 (.imm (rwD n r)) (.imm (.bl b)) .un
    have o1 := ones_len ((List.range m).filter (ins e s))
    rw [cntS_filter] at o1
    have x2 := XW2 (m := m) (e := e) a0 t r s p2 (by omega) s5 (.imm (.bl b)) (.imm (.int (cntS (ins e s) m : Nat)))
    have s3 : dSumA [.lst ((s.map r).map .int)] = some (.int (sumL s r)) := by
      unfold dSumA orC dSum
      simp only [intsOf_map, Option.bind_some, sumL]
    unfold setOk
    generalize sD s = sd at x1 x2 ⊢
    generalize ((s.map r).map D.int) = kr at x2 s3
    generalize (((List.range m).filter (ins e s)).map fun _ => D.int 1) = ones at x1 o1
    unfold RW at x1 x2 ⊢
    unfold turnF B_law_1
    cases b with
    | false =>
      simp only [sSeq, sSet, sSetN, sAsg, sDrop, sRet, sRetN, sIf, sPar, sAug, sAugL, sNil, xName, xC, xBin, xBinN, xBinT, xCall, xCallN, xNew, xTup, xLst, xLstRg, xTupRg, xRg1, xRg2, xTru, xNot, xAndT, xOrT, xAnd, xOr, xNotV, rdB, xIf, xNeg, xMet, xMet0, xMut, xMut0, aNil, aCons, vals, rdAll, DL.R.rd, oNone, oSome, xSlL, xSlT, gSet, gsNil, gsCons, gTupD, gLstD, gSubL, freeAt, isOw, kYes, List.getElem?_cons_zero, List.getElem?_cons_succ, List.set_cons_zero, List.set_cons_succ, Option.bind_some, Option.bind_none, if_true, if_false, Bool.false_eq_true, reduceIte, List.length_cons, List.length_nil, Bool.and_true, Bool.true_and, Bool.and_self, Bool.not_true, Bool.not_false, false_and, and_false, true_and, and_true, Option.isSome_some, xCallV, xCallVN, xCallB, xCh2, xCh3, isB, xDct1, xMake, sFldD, sPutD, List.map_cons, List.map_nil, x1, o1, rdB]
      simp only [sSeq, sSet, sSetN, sAsg, sDrop, sRet, sRetN, sIf, sPar, sAug, sAugL, sNil, xName, xC, xBin, xBinN, xBinT, xCall, xCallN, xNew, xTup, xLst, xLstRg, xTupRg, xRg1, xRg2, xTru, xNot, xAndT, xOrT, xAnd, xOr, xNotV, rdB, xIf, xNeg, xMet, xMet0, xMut, xMut0, aNil, aCons, vals, rdAll, DL.R.rd, oNone, oSome, xSlL, xSlT, gSet, gsNil, gsCons, gTupD, gLstD, gSubL, freeAt, isOw, kYes, List.getElem?_cons_zero, List.getElem?_cons_succ, List.set_cons_zero, List.set_cons_succ, Option.bind_some, Option.bind_none, if_true, if_false, Bool.false_eq_true, reduceIte, List.length_cons, List.length_nil, Bool.and_true, Bool.true_and, Bool.and_self, Bool.not_true, Bool.not_false, false_and, and_false, true_and, and_true, Option.isSome_some, xCallV, xCallVN, xCallB, xCh2, xCh3, isB, xDct1, xMake, sFldD, sPutD, List.map_cons, List.map_nil, wps, wp1, List.foldl_cons, List.foldl_nil, Bool.false_and]
    | true =>
      simp only [sSeq, sSet, sSetN, sAsg, sDrop, sRet, sRetN, sIf, sPar, sAug, sAugL, sNil, xName, xC, xBin, xBinN, xBinT, xCall, xCallN, xNew, xTup, xLst, xLstRg, xTupRg, xRg1, xRg2, xTru, xNot, xAndT, xOrT, xAnd, xOr, xNotV, rdB, xIf, xNeg, xMet, xMet0, xMut, xMut0, aNil, aCons, vals, rdAll, DL.R.rd, oNone, oSome, xSlL, xSlT, gSet, gsNil, gsCons, gTupD, gLstD, gSubL, freeAt, isOw, kYes, List.getElem?_cons_zero, List.getElem?_cons_succ, List.set_cons_zero, List.set_cons_succ, Option.bind_some, Option.bind_none, if_true, if_false, Bool.false_eq_true, reduceIte, List.length_cons, List.length_nil, Bool.and_true, Bool.true_and, Bool.and_self, Bool.not_true, Bool.not_false, false_and, and_false, true_and, and_true, Option.isSome_some, xCallV, xCallVN, xCallB, xCh2, xCh3, isB, xDct1, xMake, sFldD, sPutD, List.map_cons, List.map_nil, x1, o1, rdB, x2, s3, dLe_int]
      simp only [sSeq, sSet, sSetN, sAsg, sDrop, sRet, sRetN, sIf, sPar, sAug, sAugL, sNil, xName, xC, xBin, xBinN, xBinT, xCall, xCallN, xNew, xTup, xLst, xLstRg, xTupRg, xRg1, xRg2, xTru, xNot, xAndT, xOrT, xAnd, xOr, xNotV, rdB, xIf, xNeg, xMet, xMet0, xMut, xMut0, aNil, aCons, vals, rdAll, DL.R.rd, oNone, oSome, xSlL, xSlT, gSet, gsNil, gsCons, gTupD, gLstD, gSubL, freeAt, isOw, kYes, List.getElem?_cons_zero, List.getElem?_cons_succ, List.set_cons_zero, List.set_cons_succ, Option.bind_some, Option.bind_none, if_true, if_false, Bool.false_eq_true, reduceIte, List.length_cons, List.length_nil, Bool.and_true, Bool.true_and, Bool.and_self, Bool.not_true, Bool.not_false, false_and, and_false, true_and, and_true, Option.isSome_some, xCallV, xCallVN, xCallB, xCh2, xCh3, isB, xDct1, xMake, sFldD, sPutD, List.map_cons, List.map_nil, wps, wp1, List.foldl_cons, List.foldl_nil]
theorem right_eq {r : Nat → Int} {d : D} (G : GrOk n m e) (hd : Dir n m e r d) : ∃ w, dIx d (.int 0) = some (.str w) ∧ dEq (.str w) (.str "yes") = some (.bl (rightF n m e r)) := by
  cases hd with
  | none hs =>
    refine ⟨"no", rfl, ?_⟩
    rw [no_yes, show rightF n m e r = false from ?_]
    unfold rightF
    rw [beq_eq_false_iff_ne.mpr hs]
    rfl
  | yes h H hsc hs =>
    refine ⟨"yes", rfl, ?_⟩
    rw [yes_yes, show rightF n m e r = true from ?_]
    unfold rightF
    rw [beq_iff_eq.mpr hs, Bool.true_and, List.all_eq_true]
    intro s hm
    obtain ⟨p1, p2⟩ := sets_ok.mp hm
    have nd : s.Nodup := p1.imp fun {a b} h => by omega
    have h1 := ins_le H s
    have h2 := sumL_cnt nd (tl e h) m
    have h3 : sumL s (fun v => (cnt (tl e h) m v : Int)) = sumL s r := sumL_congr fun v hv => hsc v (p2 v hv)
    exact decide_eq_true (by omega)
  | no K T hs =>
    refine ⟨"no", rfl, ?_⟩
    rw [no_yes, show rightF n m e r = false from ?_]
    obtain ⟨T1, T2, T3⟩ := T
    unfold rightF
    rw [Bool.and_eq_false_iff]
    right
    rw [List.all_eq_false]
    refine ⟨K, sets_ok.mpr ⟨T1, T2⟩, ?_⟩
    unfold setOk
    rw [decide_eq_false (by omega)]
    decide
theorem dIsNotT : dIsNot (.bl true) (.bl true) = some (.bl false) := rfl
theorem BW2 (a0 : D) (G : GrOk n m e) (h1 : 1 ≤ n) (hn : n ≤ 5) (hm : m ≤ 100) {t : D} (ht : TapeOk t) (k : Nat) : ∃ t', TapeOk t' ∧ turnF [5, 6, 7, 8, 9] (gSet 5) B_law_2 (nD k) (RW a0 t n m e .un .un .un .un .un .un .un .un .un .un .un .un .un .un) = some (RW a0 t' n m e .un .un .un .un .un .un .un .un .un .un .un .un .un .un) := by
  obtain ⟨t1, h, ht1, H, e1⟩ := drawn_ok ht m e (by omega)
  have e2 := lawsc_eq (n := n) H (by omega) (by omega) (wr := .tup) (.inr rfl)
  obtain ⟨t2, r, ht2, hr, e3⟩ := bent_ok ht1 n h1 (by omega) (sc e m h) fun v _ => by unfold sc; omega
  rw [← scD_eq] at e3
  have c1 := sumT_eq n r
  have c2 : dLen [.tup (edD m e)] = some (.int m) := lenT _ _
  have e4 := LW1 (n := n) (m := m) (e := e) a0 t2 r hn (by omega) (.imm (.int k)) (sumL (List.range n) r == (m : Nat))
  have e5 := judged_eq G (by omega) hm r hr
  obtain ⟨d, hd, e6⟩ := dir_eq G (by omega) hm r hr
  obtain ⟨w, w1, w2⟩ := right_eq G hd
  have b1 : dNe (.bl (rightF n m e r)) (.bl (rightF n m e r)) = some (.bl false) := by rw [dNe_bool]; simp
  refine ⟨t2, ht2, ?_⟩
  have s1 : sSet 6 (xCallB m__law_bent (aCons (xName 1) (aCons (xCallV m__law_scores (aCons (xName 2) (aCons (xName 3) (aCons (xCallB m__law_drawn (aCons (xName 1) (aCons (xName 3) aNil))) aNil)))) aNil))) (RW a0 t n m e (.imm (nD k)) .un .un .un .un .un .un .un .un .un .un .un .un .un) = some (.nx (RW a0 t2 n m e (.imm (nD k)) (.imm (rwD n r)) .un .un .un .un .un .un .un .un .un .un .un .un)) := by
    unfold RW
    simp only [sSeq, sSet, sSetN, sAsg, sDrop, sRet, sRetN, sIf, sPar, sAug, sAugL, sNil, xName, xC, xBin, xBinN, xBinT, xCall, xCallN, xNew, xTup, xLst, xLstRg, xTupRg, xRg1, xRg2, xTru, xNot, xAndT, xOrT, xAnd, xOr, xNotV, rdB, xIf, xNeg, xMet, xMet0, xMut, xMut0, aNil, aCons, vals, rdAll, DL.R.rd, oNone, oSome, xSlL, xSlT, gSet, gsNil, gsCons, gTupD, gLstD, gSubL, freeAt, isOw, kYes, List.getElem?_cons_zero, List.getElem?_cons_succ, List.set_cons_zero, List.set_cons_succ, Option.bind_some, Option.bind_none, if_true, if_false, Bool.false_eq_true, reduceIte, List.length_cons, List.length_nil, Bool.and_true, Bool.true_and, Bool.and_self, Bool.not_true, Bool.not_false, false_and, and_false, true_and, and_true, Option.isSome_some, xCallV, xCallVN, xCallB, xCh2, xCh3, isB, xDct1, xMake, sFldD, sPutD, List.map_cons, List.map_nil, e1, e2, e3]
  have s2 : sSet 7 (xBin dEq (xCall dSumA (aCons (xName 6) aNil)) (xCall dLen (aCons (xName 3) aNil))) (RW a0 t2 n m e (.imm (nD k)) (.imm (rwD n r)) .un .un .un .un .un .un .un .un .un .un .un .un) = some (.nx (RW a0 t2 n m e (.imm (nD k)) (.imm (rwD n r)) (.imm (.bl (sumL (List.range n) r == (m : Nat)))) .un .un .un .un .un .un .un .un .un .un .un)) := by
    unfold RW
    simp only [sSeq, sSet, sSetN, sAsg, sDrop, sRet, sRetN, sIf, sPar, sAug, sAugL, sNil, xName, xC, xBin, xBinN, xBinT, xCall, xCallN, xNew, xTup, xLst, xLstRg, xTupRg, xRg1, xRg2, xTru, xNot, xAndT, xOrT, xAnd, xOr, xNotV, rdB, xIf, xNeg, xMet, xMet0, xMut, xMut0, aNil, aCons, vals, rdAll, DL.R.rd, oNone, oSome, xSlL, xSlT, gSet, gsNil, gsCons, gTupD, gLstD, gSubL, freeAt, isOw, kYes, List.getElem?_cons_zero, List.getElem?_cons_succ, List.set_cons_zero, List.set_cons_succ, Option.bind_some, Option.bind_none, if_true, if_false, Bool.false_eq_true, reduceIte, List.length_cons, List.length_nil, Bool.and_true, Bool.true_and, Bool.and_self, Bool.not_true, Bool.not_false, false_and, and_false, true_and, and_true, Option.isSome_some, xCallV, xCallVN, xCallB, xCh2, xCh3, isB, xDct1, xMake, sFldD, sPutD, List.map_cons, List.map_nil, c1, c2, dEq_int]
  have body : B_law_2 (RW a0 t n m e (.imm (nD k)) .un .un .un .un .un .un .un .un .un .un .un .un .un) = some (.nx (RW a0 t2 n m e (.imm (nD k)) (.imm (rwD n r)) (.imm (.bl (rightF n m e r))) .un .un .un .un .un .un .un .un .un .un .un)) := by
    unfold B_law_2
    refine step _ s1 (step _ s2 (step _ e4 ?_))
    rw [show ((sumL (List.range n) r == (m : Nat)) && (setsF n).all (setOk m e r)) = rightF n m e r from rfl]
    unfold RW
    generalize rightF n m e r = right at w2 b1 ⊢
    simp only [sSeq, sSet, sSetN, sAsg, sDrop, sRet, sRetN, sIf, sPar, sAug, sAugL, sNil, xName, xC, xBin, xBinN, xBinT, xCall, xCallN, xNew, xTup, xLst, xLstRg, xTupRg, xRg1, xRg2, xTru, xNot, xAndT, xOrT, xAnd, xOr, xNotV, rdB, xIf, xNeg, xMet, xMet0, xMut, xMut0, aNil, aCons, vals, rdAll, DL.R.rd, oNone, oSome, xSlL, xSlT, gSet, gsNil, gsCons, gTupD, gLstD, gSubL, freeAt, isOw, kYes, List.getElem?_cons_zero, List.getElem?_cons_succ, List.set_cons_zero, List.set_cons_succ, Option.bind_some, Option.bind_none, if_true, if_false, Bool.false_eq_true, reduceIte, List.length_cons, List.length_nil, Bool.and_true, Bool.true_and, Bool.and_self, Bool.not_true, Bool.not_false, false_and, and_false, true_and, and_true, Option.isSome_some, xCallV, xCallVN, xCallB, xCh2, xCh3, isB, xDct1, xMake, sFldD, sPutD, List.map_cons, List.map_nil, e5, dIsNotT, e6, w1, w2, b1, nD]
  unfold turnF
  have g0 : gSet 5 (nD k) (RW a0 t n m e .un .un .un .un .un .un .un .un .un .un .un .un .un .un) = some (RW a0 t n m e (.imm (nD k)) .un .un .un .un .un .un .un .un .un .un .un .un .un) := rfl
  rw [g0]
  show (B_law_2 _).bind _ = _
  rw [body]
  unfold RW
  simp only [sSeq, sSet, sSetN, sAsg, sDrop, sRet, sRetN, sIf, sPar, sAug, sAugL, sNil, xName, xC, xBin, xBinN, xBinT, xCall, xCallN, xNew, xTup, xLst, xLstRg, xTupRg, xRg1, xRg2, xTru, xNot, xAndT, xOrT, xAnd, xOr, xNotV, rdB, xIf, xNeg, xMet, xMet0, xMut, xMut0, aNil, aCons, vals, rdAll, DL.R.rd, oNone, oSome, xSlL, xSlT, gSet, gsNil, gsCons, gTupD, gLstD, gSubL, freeAt, isOw, kYes, List.getElem?_cons_zero, List.getElem?_cons_succ, List.set_cons_zero, List.set_cons_succ, Option.bind_some, Option.bind_none, if_true, if_false, Bool.false_eq_true, reduceIte, List.length_cons, List.length_nil, Bool.and_true, Bool.true_and, Bool.and_self, Bool.not_true, Bool.not_false, false_and, and_false, true_and, and_true, Option.isSome_some, xCallV, xCallVN, xCallB, xCh2, xCh3, isB, xDct1, xMake, sFldD, sPutD, List.map_cons, List.map_nil, wps, wp1, List.foldl_cons, List.foldl_nil]
theorem LW2 (a0 : D) (G : GrOk n m e) (h1 : 1 ≤ n) (hn : n ≤ 5) (hm : m ≤ 100) {t : D} (ht : TapeOk t) : ∃ t', TapeOk t' ∧ L_law_2 (RW a0 t n m e .un .un .un .un .un .un .un .un .un .un .un .un .un .un) = some (.nx (RW a0 t' n m e .un .un .un .un .un .un .un .un .un .un .un .un .un .un)) := by
  obtain ⟨t', p, run⟩ := sFor_exS (tmp := [5, 6, 7, 8, 9]) (g := gSet 5) (bd := B_law_2) (fi := iRg1 (xC (.int 4))) (ρ := RW a0 t n m e .un .un .un .un .un .un .un .un .un .un .un .un .un .un) nD (fun t => RW a0 t n m e .un .un .un .un .un .un .un .un .un .un .un .un .un .un) (fun _ t => TapeOk t) (List.range 4) t (iRg1_nat (f := xC (.int 4)) (n := 4) rfl (by omega)) ht fun k xs s hs => BW2 a0 G h1 hn hm hs k
  exact ⟨t', p, run⟩
theorem XW3 (a0 t : D) (hm : m ≤ 1000) (h fs : Nat → Nat) (s11 s12 s13 : Slot) : X_law_3 (RW a0 t n m e .un .un .un .un .un (.imm (.tup (hdD m h))) s11 s12 s13 (.imm (.lst (hdD m fs))) .un .un .un .un) = some (.lst (((List.range m).filter fun k => !(fs k == h k)).map fun _ => .int 1), RW a0 t n m e .un .un .un .un .un (.imm (.tup (hdD m h))) s11 s12 s13 (.imm (.lst (hdD m fs))) .un .un .un .un) := by
  unfold X_law_3
  have hL : dLen [.tup (edD m e)] = some (.int m) := lenT _ _
  have hfi : iRg1 (xCall dLen (aCons (xName 3) aNil)) (RW a0 t n m e .un .un .un .un .un (.imm (.tup (hdD m h))) s11 s12 s13 (.imm (.lst (hdD m fs))) .un .un .un .un) = some (((List.range m).map nD, none), RW a0 t n m e .un .un .un .un .un (.imm (.tup (hdD m h))) s11 s12 s13 (.imm (.lst (hdD m fs))) .un .un .un .un) := iRg1_nat (by unfold RW; simp only [sSeq, sSet, sSetN, sAsg, sDrop, sRet, sRetN, sIf, sPar, sAug, sAugL, sNil, xName, xC, xBin, xBinN, xBinT, xCall, xCallN, xNew, xTup, xLst, xLstRg, xTupRg, xRg1, xRg2, xTru, xNot, xAndT, xOrT, xAnd, xOr, xNotV, rdB, xIf, xNeg, xMet, xMet0, xMut, xMut0, aNil, aCons, vals, rdAll, DL.R.rd, oNone, oSome, xSlL, xSlT, gSet, gsNil, gsCons, gTupD, gLstD, gSubL, freeAt, isOw, kYes, List.getElem?_cons_zero, List.getElem?_cons_succ, List.set_cons_zero, List.set_cons_succ, Option.bind_some, Option.bind_none, if_true, if_false, Bool.false_eq_true, reduceIte, List.length_cons, List.length_nil, Bool.and_true, Bool.true_and, Bool.and_self, Bool.not_true, Bool.not_false, false_and, and_false, true_and, and_true, Option.isSome_some, xCallV, xCallVN, xCallB, xCh2, xCh3, isB, xDct1, xMake, sFldD, sPutD, List.map_cons, List.map_nil, hL]) (by omega)
  rw [xLc_run nD (fun k => if (!(fs k == h k)) = true then some (.int 1) else none) (List.range m) hfi rfl (by rw [List.length_range]; have := sizeLine_eq; omega) ?_]
  · rw [filterMap_if (fun k => !(fs k == h k)) fun _ => D.int 1]
  · intro k hk
    have hk := List.mem_range.mp hk
    have i1 : dIx (.tup (hdD m h)) (.int k) = some (.int (h k)) := ixT _ hk
    have i2 : dIx (.lst (hdD m fs)) (.int k) = some (.int (fs k)) := ixL _ hk
    generalize D.tup (hdD m h) = hd at i1 ⊢
    generalize D.lst (hdD m fs) = fd at i2 ⊢
    unfold turnC K_law_2 E_law_3 RW
    cases c : fs k == h k with
    | true => simp only [sSeq, sSet, sSetN, sAsg, sDrop, sRet, sRetN, sIf, sPar, sAug, sAugL, sNil, xName, xC, xBin, xBinN, xBinT, xCall, xCallN, xNew, xTup, xLst, xLstRg, xTupRg, xRg1, xRg2, xTru, xNot, xAndT, xOrT, xAnd, xOr, xNotV, rdB, xIf, xNeg, xMet, xMet0, xMut, xMut0, aNil, aCons, vals, rdAll, DL.R.rd, oNone, oSome, xSlL, xSlT, gSet, gsNil, gsCons, gTupD, gLstD, gSubL, freeAt, isOw, kYes, List.getElem?_cons_zero, List.getElem?_cons_succ, List.set_cons_zero, List.set_cons_succ, Option.bind_some, Option.bind_none, if_true, if_false, Bool.false_eq_true, reduceIte, List.length_cons, List.length_nil, Bool.and_true, Bool.true_and, Bool.and_self, Bool.not_true, Bool.not_false, false_and, and_false, true_and, and_true, Option.isSome_some, xCallV, xCallVN, xCallB, xCh2, xCh3, isB, xDct1, xMake, sFldD, sPutD, List.map_cons, List.map_nil, nD, wipeE, i1, i2, dNe_int, beq_nat, c]
    | false => simp only [sSeq, sSet, sSetN, sAsg, sDrop, sRet, sRetN, sIf, sPar, sAug, sAugL, sNil, xName, xC, xBin, xBinN, xBinT, xCall, xCallN, xNew, xTup, xLst, xLstRg, xTupRg, xRg1, xRg2, xTru, xNot, xAndT, xOrT, xAnd, xOr, xNotV, rdB, xIf, xNeg, xMet, xMet0, xMut, xMut0, aNil, aCons, vals, rdAll, DL.R.rd, oNone, oSome, xSlL, xSlT, gSet, gsNil, gsCons, gTupD, gLstD, gSubL, freeAt, isOw, kYes, List.getElem?_cons_zero, List.getElem?_cons_succ, List.set_cons_zero, List.set_cons_succ, Option.bind_some, Option.bind_none, if_true, if_false, Bool.false_eq_true, reduceIte, List.length_cons, List.length_nil, Bool.and_true, Bool.true_and, Bool.and_self, Bool.not_true, Bool.not_false, false_and, and_false, true_and, and_true, Option.isSome_some, xCallV, xCallVN, xCallB, xCh2, xCh3, isB, xDct1, xMake, sFldD, sPutD, List.map_cons, List.map_nil, nD, wipeE, i1, i2, dNe_int, beq_nat, c]
theorem listD_eq (g : En → D) (Q : List En) : dListD [dcQ g Q] = some (.lst ((kys Q).map nD)) := by
  show some (D.lst _) = _
  unfold dcK kys
  rw [List.map_map, List.map_map]
  rfl
theorem dInt_bool (b : Bool) : dInt [.bl b] = some (.int (if b = true then 1 else 0)) := by cases b <;> rfl
/-- what the two bent scores are -/
theorem due_same {h fs : Nat → Nat} {first last d : Nat} (T : Turned n m e h first last d fs) (β : Int) (hb : β = if (!(first == last)) = true then 1 else 0) :
    ∀ v, sc e m fs v = if v = last then (if last = first then sc e m h first - β else sc e m h last) + β else if v = first then sc e m h first - β else sc e m h v := by
  intro v
  have := T.sc v
  unfold sc
  by_cases c : first = last
  · rw [show (!(first == last)) = false by simp [c], if_neg (by decide)] at hb
    by_cases a : v = last
    · rw [if_pos a, if_pos (by omega)] at this
      rw [if_pos a, if_pos c.symm, c, ← a]
      omega
    · rw [if_neg a, if_neg (by omega)] at this
      rw [if_neg a, if_neg (by omega)]
      omega
  · rw [show (!(first == last)) = true by simp [c], if_pos rfl] at hb
    by_cases a : v = last
    · rw [if_pos a, if_neg (by omega)] at this
      rw [if_pos a, if_neg (by omega), ← a]
      omega
    · rw [if_neg a] at this
      rw [if_neg a]
      by_cases a2 : v = first
      · rw [if_pos a2] at this
        rw [if_pos a2, ← a2]
        omega
      · rw [if_neg a2] at this
        rw [if_neg a2]
        omega
end
end K59

set_option maxRecDepth 100000
set_option maxHeartbeats 4000000
namespace K59
open PySem PySem.Spec PyProof.Rows L2 DL
/-- the law's look at a path turned round -/
noncomputable def sTold : FS := (sIf (xBinT dIsNot (xName 14) (xC .non)) (sSeq (sIf (xBinT dNe (xCall dLen (aCons (xNew X_law_3) aNil)) (xBin dGetK (xName 13) (xName 12))) (sRet (xC (.bl false))) sNil) (sSeq (sSetN 15 (xCallN dListOf (aCons (xCallV m__law_scores (aCons (xName 2) (aCons (xName 3) (aCons (xName 10) aNil)))) aNil))) (sSeq (sAsg (xBin dSub (xBin dIx (xName 15) (xName 11)) (xCall dInt (aCons (xBin dNe (xName 11) (xName 12)) aNil))) (gSubL 15 (xName 11))) (sSeq (sAsg (xBin dPlus (xBin dIx (xName 15) (xName 12)) (xCall dInt (aCons (xBin dNe (xName 11) (xName 12)) aNil))) (gSubL 15 (xName 12))) (sIf (xOrT (xBinT dNe (xCallV m__law_scores (aCons (xName 2) (aCons (xName 3) (aCons (xName 14) aNil)))) (xCall dTupOf (aCons (xName 15) aNil))) (xBinT dNotInD (xName 12) (xCallV m__law_far (aCons (xName 3) (aCons (xName 10) (aCons (xName 11) aNil)))))) (sRet (xC (.bl false))) sNil))))) sNil)
section
variable {n m : Nat} {e : Nat → Nat × Nat}
theorem told_ok (a0 t : D) (G : GrOk n m e) (hn : n < 40) (hm : m ≤ 100) {h : Nat → Nat} (H : HdOk m e h) {first last : Nat} (hf : first < n) (hl : last < n) {x : En} (hx : x ∈ bRun (tl e h) h m 40 [root first] 0) (ev : x.v = last) {fs : Nat → Nat} (T : Turned n m e h first last x.d fs) :
    ∃ s15, sTold (RW a0 t n m e .un .un .un .un .un (.imm (.tup (hdD m h))) (.imm (.int first)) (.imm (.int last)) (.imm (dcQ fr (bRun (tl e h) h m 40 [root first] 0))) (.imm (.lst (hdD m fs))) .un .un .un .un) = some (.nx (RW a0 t n m e .un .un .un .un .un (.imm (.tup (hdD m h))) (.imm (.int first)) (.imm (.int last)) (.imm (dcQ fr (bRun (tl e h) h m 40 [root first] 0))) (.imm (.lst (hdD m fs))) s15 .un .un .un)) := by
  have hh : ∀ k, k < m → h k < n := fun k hk => (tl_lt G H hk).2
  obtain ⟨gd, _, _⟩ := bRun_ok (t := tl e h) (h := h) hh 40 [root first] 0 (.one hf) (fun j z hj => by omega) (by simp) (by omega)
  have ef := far_eq (first := first) G H hn (by omega) (wr := .tup) (.inr rfl) hf
  have x3 := XW3 (n := n) (m := m) (e := e) a0 t (by omega) h fs (.imm (.int first)) (.imm (.int last)) (.imm (dcQ fr (bRun (tl e h) h m 40 [root first] 0)))
  have gx : dGetK (dcQ fr (bRun (tl e h) h m 40 [root first] 0)) (.int last) = some (.int x.d) := by
    rw [← ev, get_Q gd fr hx]
    rfl
  have nx := notIn_Q fr (bRun (tl e h) h m 40 [root first] 0) last
  rw [decide_eq_true (kys_mem.mpr ⟨x, hx, ev⟩)] at nx
  generalize dcQ fr (bRun (tl e h) h m 40 [root first] 0) = far at ef x3 gx nx ⊢
  have o1 := ones_len ((List.range m).filter fun k => !(fs k == h k))
  rw [cntS_filter, T.ch] at o1
  generalize (((List.range m).filter fun k => !(fs k == h k)).map fun _ => D.int 1) = ones at x3 o1
  have p1 := lawsc_eq (n := n) H (by omega) (by omega) (wr := .tup) (.inr rfl)
  have p2 := lawsc_eq (n := n) T.hd (by omega) (by omega) (wr := .lst) (.inl rfl)
  have n1 : dIsNot (.lst (hdD m fs)) .non = some (.bl true) := rfl
  have n2 : dNe (.int x.d) (.int x.d) = some (.bl false) := by rw [dNe_int, beq_self_eq_true]; rfl
  have l0 : dListOf [scD n m e h] = some (.lst (tn n fun v => .int (sc e m h v))) := rfl
  generalize hβ : (if (!(first == last)) = true then (1 : Int) else 0) = β
  have nb : dNe (.int first) (.int last) = some (.bl (!(first == last))) := by rw [dNe_int, beq_nat]
  have di : dInt [.bl (!(first == last))] = some (.int β) := by rw [dInt_bool, hβ]
  have i1 : dIx (.lst (tn n fun v => .int (sc e m h v))) (.int first) = some (.int (sc e m h first)) := ixL (fun v => D.int (sc e m h v)) hf
  have i2 : ixN (tn n fun v => D.int (sc e m h v)).length (first : Int) = some first := ixN_nat (by rw [tn_len]; exact hf)
  have i3 := tn_get (fun v => D.int (sc e m h v)) hf
  have s1 := set_row n (sc e m h) first (sc e m h first - β)
  have j1 : dIx (.lst (tn n fun v => .int (if v = first then sc e m h first - β else sc e m h v))) (.int last) = some (.int (if last = first then sc e m h first - β else sc e m h last)) := ixL (fun v => D.int (if v = first then sc e m h first - β else sc e m h v)) hl
  have j2 : ixN (tn n fun v => D.int (if v = first then sc e m h first - β else sc e m h v)).length (last : Int) = some last := ixN_nat (by rw [tn_len]; exact hl)
  have j3 := tn_get (fun v => D.int (if v = first then sc e m h first - β else sc e m h v)) hl
  have s2 := set_row n (fun v => if v = first then sc e m h first - β else sc e m h v) last ((if last = first then sc e m h first - β else sc e m h last) + β)
  have fin : dNe (scD n m e fs) (.tup (tn n fun v => .int (if v = last then (if last = first then sc e m h first - β else sc e m h last) + β else if v = first then sc e m h first - β else sc e m h v))) = some (.bl false) := by
    rw [scD_eq, show dNe (rwD n (sc e m fs)) (.tup (tn n fun v => .int (if v = last then (if last = first then sc e m h first - β else sc e m h last) + β else if v = first then sc e m h first - β else sc e m h v))) = some (.bl (!sameN n (sc e m fs) _)) from dNe_tn n _ _, sameN_iff.mpr fun v _ => due_same T β hβ.symm v]
    rfl
  refine ⟨.ow false (.lst (tn n fun v => .int (if v = last then (if last = first then sc e m h first - β else sc e m h last) + β else if v = first then sc e m h first - β else sc e m h v))), ?_⟩
  generalize (tn n fun v => D.int (sc e m h v)) = c1 at *
  generalize (tn n fun v => D.int (if v = first then sc e m h first - β else sc e m h v)) = c2 at *
  generalize (tn n fun v => D.int (if v = last then (if last = first then sc e m h first - β else sc e m h last) + β else if v = first then sc e m h first - β else sc e m h v)) = c3 at *
  have t3 : dTupOf [.lst c3] = some (.tup c3) := rfl
  generalize hD1 : D.tup (hdD m h) = hd at *
  generalize hD2 : D.lst (hdD m fs) = fd at *
  unfold RW at x3 ⊢
  unfold sTold
  simp only [sSeq, sSet, sSetN, sAsg, sDrop, sRet, sRetN, sIf, sPar, sAug, sAugL, sNil, xName, xC, xBin, xBinN, xBinT, xCall, xCallN, xNew, xTup, xLst, xLstRg, xTupRg, xRg1, xRg2, xTru, xNot, xAndT, xOrT, xAnd, xOr, xNotV, rdB, xIf, xNeg, xMet, xMet0, xMut, xMut0, aNil, aCons, vals, rdAll, DL.R.rd, oNone, oSome, xSlL, xSlT, gSet, gsNil, gsCons, gTupD, gLstD, gSubL, freeAt, isOw, kYes, List.getElem?_cons_zero, List.getElem?_cons_succ, List.set_cons_zero, List.set_cons_succ, Option.bind_some, Option.bind_none, if_true, if_false, Bool.false_eq_true, reduceIte, List.length_cons, List.length_nil, Bool.and_true, Bool.true_and, Bool.and_self, Bool.not_true, Bool.not_false, false_and, and_false, true_and, and_true, Option.isSome_some, xCallV, xCallVN, xCallB, xCh2, xCh3, isB, xDct1, xMake, sFldD, sPutD, List.map_cons, List.map_nil, n1, x3, o1, gx, n2, p1, l0, i1, nb, di, dSub_int, i2, i3, s1, j1, dPlus_int, j2, j3, s2, p2, t3, fin, ef, nx]
end
theorem law_true : LawTrue m_law 63 := by
  intro ns hns
  have ht0 : TapeOk (tape ns 0 0 7) := ⟨ns, 0, 0, 7, rfl, by omega⟩
  have st := start_eq ns
  generalize D.frz (ns.map .int) = a0 at st
  generalize tape ns 0 0 7 = t0 at st ht0
  obtain ⟨t1, n, m, e, ht1, h1, hn, hm, G, e1⟩ := graph_ok ht0 5 7 (by omega) (by omega) (by omega)
  have ini := init_eq G (by omega : m ≤ 1000)
  obtain ⟨t2, ht2, eL⟩ := LW2 a0 G h1 hn (by omega) ht1
  obtain ⟨t3, h, ht3, H, e3⟩ := drawn_ok ht2 m e (by omega)
  have e4 := scores_eq G H (by omega) (by omega) (wr := .tup) (.inr rfl)
  have e5 := lawsc_eq (n := n) H (by omega) (by omega) (wr := .tup) (.inr rfl)
  have e6 : m__law_same 5 [.imm (scD n m e h), .imm (scD n m e h)] = some (.bl true, [.imm (scD n m e h), .imm (scD n m e h)]) := same_ints 3 n (sc e m h) (by omega)
  obtain ⟨t4, first, ht4, hf, e7⟩ := pick_ok ht3 n h1 (by omega)
  obtain ⟨t5, last, ht5, hl, e8⟩ := pick_ok ht4 n h1 (by omega)
  have e9 := far_eq (first := first) G H (by omega) (by omega) (wr := .tup) (.inr rfl) hf
  have e10 := led_eq (first := first) G H (by omega) (by omega) (wr := .tup) (.inr rfl) hf
  have tq := turned_eq (first := first) G H (by omega) (by omega) (wr := .lst) (.inl rfl) hf last
  have to := fun x hx ev fs T => told_ok (x := x) (fs := fs) a0 t5 G (by omega) (by omega) H hf hl hx ev T
  have nq := notIn_Q fr (bRun (tl e h) h m 40 [root first] 0) last
  have ld := listD_eq fr (bRun (tl e h) h m 40 [root first] 0)
  obtain ⟨KS, _, _, e11⟩ := sort_nats (kys (bRun (tl e h) h m 40 [root first] 0))
  have e12 : dNe (.lst (KS.map nD)) (.lst (KS.map nD)) = some (.bl false) := by rw [dNe_nats, beq_self_eq_true]; rfl
  -- the larger graph
  obtain ⟨t6, n2, m2, f, ht6, k1, kn, km, G2, e13⟩ := graph_ok ht5 12 30 (by omega) (by omega) (by omega)
  obtain ⟨t7, g, ht7, H2, e14⟩ := drawn_ok ht6 m2 f (by omega)
  have e15 := lawsc_eq (n := n2) H2 (by omega) (by omega) (wr := .tup) (.inr rfl)
  have ini2 := init_eq G2 (by omega : m2 ≤ 1000)
  have r0 : ∀ v, v < n2 → -3 ≤ sc f m2 g v := fun v _ => by unfold sc; omega
  obtain ⟨d, hd, e16⟩ := dir_eq G2 (by omega) (by omega) (sc f m2 g) r0
  have e17 := judged_eq G2 (by omega) (by omega) (sc f m2 g) r0
  have dyes : ∃ hd, d = .tup [.str "yes", hd] := by
    cases hd with
    | none hs => exact absurd (sum_all G2 H2) hs
    | yes h' _ _ _ => exact ⟨_, rfl⟩
    | no K T hs =>
      obtain ⟨T1, T2, T3⟩ := T
      have nd : K.Nodup := T1.imp fun {a b} h => by omega
      have q1 := ins_le H2 K
      have q2 := sumL_cnt nd (tl f g) m2
      have q3 : sumL K (fun v => (cnt (tl f g) m2 v : Int)) = sumL K (sc f m2 g) := rfl
      omega
  obtain ⟨hd2, rfl⟩ := dyes
  have y1 : dIx (.tup [.str "yes", hd2]) (.int 0) = some (.str "yes") := rfl
  generalize D.tup [.str "yes", hd2] = dd at e16 y1
  obtain ⟨t8, r, ht8, hr, e18⟩ := bent_ok ht7 n2 k1 (by omega) (sc f m2 g) fun v _ => by unfold sc; omega
  have e19 := judged_eq G2 (by omega) (by omega) r hr
  have y2 : dIs (.bl true) (.bl true) = some (.bl true) := rfl
  rw [← scD_eq] at e16 e17 e18
  -- from a path turned round on
  have rest : ∀ s14 s15, sTold (RW a0 t5 n m e .un .un .un .un .un (.imm (.tup (hdD m h))) (.imm (.int first)) (.imm (.int last)) (.imm (dcQ fr (bRun (tl e h) h m 40 [root first] 0))) s14 .un .un .un .un) = some (.nx (RW a0 t5 n m e .un .un .un .un .un (.imm (.tup (hdD m h))) (.imm (.int first)) (.imm (.int last)) (.imm (dcQ fr (bRun (tl e h) h m 40 [root first] 0))) s14 s15 .un .un .un)) → True := fun _ _ _ => trivial
  have lo : dListOf [.tup (hdD m h)] = some (.lst (hdD m h)) := rfl
  have e13 : m__law_graph [.ow true t5, .imm (.int 12), .imm (.int 30)] = some (.tup [.int (n2 : Nat), .tup (edD m2 f)], [.ow true t6, .imm (.int 12), .imm (.int 30)]) := e13
  have e1 : m__law_graph [.ow true t0, .imm (.int 5), .imm (.int 7)] = some (.tup [.int (n : Nat), .tup (edD m e)], [.ow true t1, .imm (.int 5), .imm (.int 7)]) := e1
  -- the two roads
  have road : ∀ (dt : D) (s15 : Slot), m_turned_path [.imm (gO n m e), .imm (.lst (hdD m h)), .imm (.int first), .imm (.int last)] = some (dt, [.imm (gO n m e), .imm (.lst (hdD m h)), .imm (.int first), .imm (.int last)]) →
      (∃ b, dIs dt .non = some (.bl b) ∧ dNotInD (.int last) (dcQ fr (bRun (tl e h) h m 40 [root first] 0)) = some (.bl b)) →
      sTold (RW a0 t5 n m e .un .un .un .un .un (.imm (.tup (hdD m h))) (.imm (.int first)) (.imm (.int last)) (.imm (dcQ fr (bRun (tl e h) h m 40 [root first] 0))) (.imm dt) .un .un .un .un) = some (.nx (RW a0 t5 n m e .un .un .un .un .un (.imm (.tup (hdD m h))) (.imm (.int first)) (.imm (.int last)) (.imm (dcQ fr (bRun (tl e h) h m 40 [root first] 0))) (.imm dt) s15 .un .un .un)) →
      ∃ ρ', m_law [.imm a0] = some (.bl true, ρ') := by
    intro dt s15 et ⟨b, z1, z2⟩ eT
    have z3 : dNe (.bl b) (.bl b) = some (.bl false) := by rw [dNe_bool]; simp
    generalize dcQ fr (bRun (tl e h) h m 40 [root first] 0) = far at *
    generalize (kys (bRun (tl e h) h m 40 [root first] 0)).map nD = ks at *
    generalize KS.map nD = kd at *
    refine ⟨[.imm a0], fnD_rt (b := false) (ρ' := RW a0 t8 n m e .un .un .un .un .un (.imm (.tup (hdD m h))) (.imm (.int first)) (.imm (.int last)) (.imm far) (.imm dt) s15 (.imm (.int n2)) (.imm (.tup (edD m2 f))) (.imm (scD n2 m2 f g))) ?_ rfl (.inl rfl) rfl⟩
    show b_law [.imm a0, .un, .un, .un, .un, .un, .un, .un, .un, .un, .un, .un, .un, .un, .un, .un, .un, .un, .un, .un, .un, .un, .un] = _
    unfold b_law
    refine step [.imm a0, .ow false t0, .un, .un, .un, .un, .un, .un, .un, .un, .un, .un, .un, .un, .un, .un, .un, .un, .un, .un, .un, .un, .un] ?_ ?_
    · simp only [sSeq, sSet, sSetN, sAsg, sDrop, sRet, sRetN, sIf, sPar, sAug, sAugL, sNil, xName, xC, xBin, xBinN, xBinT, xCall, xCallN, xNew, xTup, xLst, xLstRg, xTupRg, xRg1, xRg2, xTru, xNot, xAndT, xOrT, xAnd, xOr, xNotV, rdB, xIf, xNeg, xMet, xMet0, xMut, xMut0, aNil, aCons, vals, rdAll, DL.R.rd, oNone, oSome, xSlL, xSlT, gSet, gsNil, gsCons, gTupD, gLstD, gSubL, freeAt, isOw, kYes, List.getElem?_cons_zero, List.getElem?_cons_succ, List.set_cons_zero, List.set_cons_succ, Option.bind_some, Option.bind_none, if_true, if_false, Bool.false_eq_true, reduceIte, List.length_cons, List.length_nil, Bool.and_true, Bool.true_and, Bool.and_self, Bool.not_true, Bool.not_false, false_and, and_false, true_and, and_true, Option.isSome_some, xCallV, xCallVN, xCallB, xCh2, xCh3, isB, xDct1, xMake, sFldD, sPutD, List.map_cons, List.map_nil, st]
    refine step [.imm a0, .ow false t1, .imm (.int n), .imm (.tup (edD m e)), .un, .un, .un, .un, .un, .un, .un, .un, .un, .un, .un, .un, .un, .un, .un, .un, .un, .un, .un] ?_ ?_
    · simp only [sSeq, sSet, sSetN, sAsg, sDrop, sRet, sRetN, sIf, sPar, sAug, sAugL, sNil, xName, xC, xBin, xBinN, xBinT, xCall, xCallN, xNew, xTup, xLst, xLstRg, xTupRg, xRg1, xRg2, xTru, xNot, xAndT, xOrT, xAnd, xOr, xNotV, rdB, xIf, xNeg, xMet, xMet0, xMut, xMut0, aNil, aCons, vals, rdAll, DL.R.rd, oNone, oSome, xSlL, xSlT, gSet, gsNil, gsCons, gTupD, gLstD, gSubL, freeAt, isOw, kYes, List.getElem?_cons_zero, List.getElem?_cons_succ, List.set_cons_zero, List.set_cons_succ, Option.bind_some, Option.bind_none, if_true, if_false, Bool.false_eq_true, reduceIte, List.length_cons, List.length_nil, Bool.and_true, Bool.true_and, Bool.and_self, Bool.not_true, Bool.not_false, false_and, and_false, true_and, and_true, Option.isSome_some, xCallV, xCallVN, xCallB, xCh2, xCh3, isB, xDct1, xMake, sFldD, sPutD, List.map_cons, List.map_nil, e1]
    refine step (RW a0 t1 n m e .un .un .un .un .un .un .un .un .un .un .un .un .un .un) ?_ ?_
    · unfold RW
      simp only [sSeq, sSet, sSetN, sAsg, sDrop, sRet, sRetN, sIf, sPar, sAug, sAugL, sNil, xName, xC, xBin, xBinN, xBinT, xCall, xCallN, xNew, xTup, xLst, xLstRg, xTupRg, xRg1, xRg2, xTru, xNot, xAndT, xOrT, xAnd, xOr, xNotV, rdB, xIf, xNeg, xMet, xMet0, xMut, xMut0, aNil, aCons, vals, rdAll, DL.R.rd, oNone, oSome, xSlL, xSlT, gSet, gsNil, gsCons, gTupD, gLstD, gSubL, freeAt, isOw, kYes, List.getElem?_cons_zero, List.getElem?_cons_succ, List.set_cons_zero, List.set_cons_succ, Option.bind_some, Option.bind_none, if_true, if_false, Bool.false_eq_true, reduceIte, List.length_cons, List.length_nil, Bool.and_true, Bool.true_and, Bool.and_self, Bool.not_true, Bool.not_false, false_and, and_false, true_and, and_true, Option.isSome_some, xCallV, xCallVN, xCallB, xCh2, xCh3, isB, xDct1, xMake, sFldD, sPutD, List.map_cons, List.map_nil, ini]
    refine step _ eL ?_
    refine step (RW a0 t3 n m e .un .un .un .un .un (.imm (.tup (hdD m h))) .un .un .un .un .un .un .un .un) ?_ ?_
    · unfold RW
      simp only [sSeq, sSet, sSetN, sAsg, sDrop, sRet, sRetN, sIf, sPar, sAug, sAugL, sNil, xName, xC, xBin, xBinN, xBinT, xCall, xCallN, xNew, xTup, xLst, xLstRg, xTupRg, xRg1, xRg2, xTru, xNot, xAndT, xOrT, xAnd, xOr, xNotV, rdB, xIf, xNeg, xMet, xMet0, xMut, xMut0, aNil, aCons, vals, rdAll, DL.R.rd, oNone, oSome, xSlL, xSlT, gSet, gsNil, gsCons, gTupD, gLstD, gSubL, freeAt, isOw, kYes, List.getElem?_cons_zero, List.getElem?_cons_succ, List.set_cons_zero, List.set_cons_succ, Option.bind_some, Option.bind_none, if_true, if_false, Bool.false_eq_true, reduceIte, List.length_cons, List.length_nil, Bool.and_true, Bool.true_and, Bool.and_self, Bool.not_true, Bool.not_false, false_and, and_false, true_and, and_true, Option.isSome_some, xCallV, xCallVN, xCallB, xCh2, xCh3, isB, xDct1, xMake, sFldD, sPutD, List.map_cons, List.map_nil, e3]
    refine step (RW a0 t3 n m e .un .un .un .un .un (.imm (.tup (hdD m h))) .un .un .un .un .un .un .un .un) ?_ ?_
    · unfold RW
      simp only [sSeq, sSet, sSetN, sAsg, sDrop, sRet, sRetN, sIf, sPar, sAug, sAugL, sNil, xName, xC, xBin, xBinN, xBinT, xCall, xCallN, xNew, xTup, xLst, xLstRg, xTupRg, xRg1, xRg2, xTru, xNot, xAndT, xOrT, xAnd, xOr, xNotV, rdB, xIf, xNeg, xMet, xMet0, xMut, xMut0, aNil, aCons, vals, rdAll, DL.R.rd, oNone, oSome, xSlL, xSlT, gSet, gsNil, gsCons, gTupD, gLstD, gSubL, freeAt, isOw, kYes, List.getElem?_cons_zero, List.getElem?_cons_succ, List.set_cons_zero, List.set_cons_succ, Option.bind_some, Option.bind_none, if_true, if_false, Bool.false_eq_true, reduceIte, List.length_cons, List.length_nil, Bool.and_true, Bool.true_and, Bool.and_self, Bool.not_true, Bool.not_false, false_and, and_false, true_and, and_true, Option.isSome_some, xCallV, xCallVN, xCallB, xCh2, xCh3, isB, xDct1, xMake, sFldD, sPutD, List.map_cons, List.map_nil, e4, e5, e6, dTru]
    refine step (RW a0 t4 n m e .un .un .un .un .un (.imm (.tup (hdD m h))) (.imm (.int first)) .un .un .un .un .un .un .un) ?_ ?_
    · unfold RW
      simp only [sSeq, sSet, sSetN, sAsg, sDrop, sRet, sRetN, sIf, sPar, sAug, sAugL, sNil, xName, xC, xBin, xBinN, xBinT, xCall, xCallN, xNew, xTup, xLst, xLstRg, xTupRg, xRg1, xRg2, xTru, xNot, xAndT, xOrT, xAnd, xOr, xNotV, rdB, xIf, xNeg, xMet, xMet0, xMut, xMut0, aNil, aCons, vals, rdAll, DL.R.rd, oNone, oSome, xSlL, xSlT, gSet, gsNil, gsCons, gTupD, gLstD, gSubL, freeAt, isOw, kYes, List.getElem?_cons_zero, List.getElem?_cons_succ, List.set_cons_zero, List.set_cons_succ, Option.bind_some, Option.bind_none, if_true, if_false, Bool.false_eq_true, reduceIte, List.length_cons, List.length_nil, Bool.and_true, Bool.true_and, Bool.and_self, Bool.not_true, Bool.not_false, false_and, and_false, true_and, and_true, Option.isSome_some, xCallV, xCallVN, xCallB, xCh2, xCh3, isB, xDct1, xMake, sFldD, sPutD, List.map_cons, List.map_nil, e7]
    refine step (RW a0 t5 n m e .un .un .un .un .un (.imm (.tup (hdD m h))) (.imm (.int first)) (.imm (.int last)) .un .un .un .un .un .un) ?_ ?_
    · unfold RW
      simp only [sSeq, sSet, sSetN, sAsg, sDrop, sRet, sRetN, sIf, sPar, sAug, sAugL, sNil, xName, xC, xBin, xBinN, xBinT, xCall, xCallN, xNew, xTup, xLst, xLstRg, xTupRg, xRg1, xRg2, xTru, xNot, xAndT, xOrT, xAnd, xOr, xNotV, rdB, xIf, xNeg, xMet, xMet0, xMut, xMut0, aNil, aCons, vals, rdAll, DL.R.rd, oNone, oSome, xSlL, xSlT, gSet, gsNil, gsCons, gTupD, gLstD, gSubL, freeAt, isOw, kYes, List.getElem?_cons_zero, List.getElem?_cons_succ, List.set_cons_zero, List.set_cons_succ, Option.bind_some, Option.bind_none, if_true, if_false, Bool.false_eq_true, reduceIte, List.length_cons, List.length_nil, Bool.and_true, Bool.true_and, Bool.and_self, Bool.not_true, Bool.not_false, false_and, and_false, true_and, and_true, Option.isSome_some, xCallV, xCallVN, xCallB, xCh2, xCh3, isB, xDct1, xMake, sFldD, sPutD, List.map_cons, List.map_nil, e8]
    refine step (RW a0 t5 n m e .un .un .un .un .un (.imm (.tup (hdD m h))) (.imm (.int first)) (.imm (.int last)) (.imm far) .un .un .un .un .un) ?_ ?_
    · unfold RW
      simp only [sSeq, sSet, sSetN, sAsg, sDrop, sRet, sRetN, sIf, sPar, sAug, sAugL, sNil, xName, xC, xBin, xBinN, xBinT, xCall, xCallN, xNew, xTup, xLst, xLstRg, xTupRg, xRg1, xRg2, xTru, xNot, xAndT, xOrT, xAnd, xOr, xNotV, rdB, xIf, xNeg, xMet, xMet0, xMut, xMut0, aNil, aCons, vals, rdAll, DL.R.rd, oNone, oSome, xSlL, xSlT, gSet, gsNil, gsCons, gTupD, gLstD, gSubL, freeAt, isOw, kYes, List.getElem?_cons_zero, List.getElem?_cons_succ, List.set_cons_zero, List.set_cons_succ, Option.bind_some, Option.bind_none, if_true, if_false, Bool.false_eq_true, reduceIte, List.length_cons, List.length_nil, Bool.and_true, Bool.true_and, Bool.and_self, Bool.not_true, Bool.not_false, false_and, and_false, true_and, and_true, Option.isSome_some, xCallV, xCallVN, xCallB, xCh2, xCh3, isB, xDct1, xMake, sFldD, sPutD, List.map_cons, List.map_nil, e9]
    refine step (RW a0 t5 n m e .un .un .un .un .un (.imm (.tup (hdD m h))) (.imm (.int first)) (.imm (.int last)) (.imm far) .un .un .un .un .un) ?_ ?_
    · unfold RW
      simp only [sSeq, sSet, sSetN, sAsg, sDrop, sRet, sRetN, sIf, sPar, sAug, sAugL, sNil, xName, xC, xBin, xBinN, xBinT, xCall, xCallN, xNew, xTup, xLst, xLstRg, xTupRg, xRg1, xRg2, xTru, xNot, xAndT, xOrT, xAnd, xOr, xNotV, rdB, xIf, xNeg, xMet, xMet0, xMut, xMut0, aNil, aCons, vals, rdAll, DL.R.rd, oNone, oSome, xSlL, xSlT, gSet, gsNil, gsCons, gTupD, gLstD, gSubL, freeAt, isOw, kYes, List.getElem?_cons_zero, List.getElem?_cons_succ, List.set_cons_zero, List.set_cons_succ, Option.bind_some, Option.bind_none, if_true, if_false, Bool.false_eq_true, reduceIte, List.length_cons, List.length_nil, Bool.and_true, Bool.true_and, Bool.and_self, Bool.not_true, Bool.not_false, false_and, and_false, true_and, and_true, Option.isSome_some, xCallV, xCallVN, xCallB, xCh2, xCh3, isB, xDct1, xMake, sFldD, sPutD, List.map_cons, List.map_nil, e10, e11, ld, e12]
    refine step (RW a0 t5 n m e .un .un .un .un .un (.imm (.tup (hdD m h))) (.imm (.int first)) (.imm (.int last)) (.imm far) (.imm dt) .un .un .un .un) ?_ ?_
    · unfold RW
      simp only [sSeq, sSet, sSetN, sAsg, sDrop, sRet, sRetN, sIf, sPar, sAug, sAugL, sNil, xName, xC, xBin, xBinN, xBinT, xCall, xCallN, xNew, xTup, xLst, xLstRg, xTupRg, xRg1, xRg2, xTru, xNot, xAndT, xOrT, xAnd, xOr, xNotV, rdB, xIf, xNeg, xMet, xMet0, xMut, xMut0, aNil, aCons, vals, rdAll, DL.R.rd, oNone, oSome, xSlL, xSlT, gSet, gsNil, gsCons, gTupD, gLstD, gSubL, freeAt, isOw, kYes, List.getElem?_cons_zero, List.getElem?_cons_succ, List.set_cons_zero, List.set_cons_succ, Option.bind_some, Option.bind_none, if_true, if_false, Bool.false_eq_true, reduceIte, List.length_cons, List.length_nil, Bool.and_true, Bool.true_and, Bool.and_self, Bool.not_true, Bool.not_false, false_and, and_false, true_and, and_true, Option.isSome_some, xCallV, xCallVN, xCallB, xCh2, xCh3, isB, xDct1, xMake, sFldD, sPutD, List.map_cons, List.map_nil, lo, et]
    refine step (RW a0 t5 n m e .un .un .un .un .un (.imm (.tup (hdD m h))) (.imm (.int first)) (.imm (.int last)) (.imm far) (.imm dt) .un .un .un .un) ?_ ?_
    · unfold RW
      simp only [sSeq, sSet, sSetN, sAsg, sDrop, sRet, sRetN, sIf, sPar, sAug, sAugL, sNil, xName, xC, xBin, xBinN, xBinT, xCall, xCallN, xNew, xTup, xLst, xLstRg, xTupRg, xRg1, xRg2, xTru, xNot, xAndT, xOrT, xAnd, xOr, xNotV, rdB, xIf, xNeg, xMet, xMet0, xMut, xMut0, aNil, aCons, vals, rdAll, DL.R.rd, oNone, oSome, xSlL, xSlT, gSet, gsNil, gsCons, gTupD, gLstD, gSubL, freeAt, isOw, kYes, List.getElem?_cons_zero, List.getElem?_cons_succ, List.set_cons_zero, List.set_cons_succ, Option.bind_some, Option.bind_none, if_true, if_false, Bool.false_eq_true, reduceIte, List.length_cons, List.length_nil, Bool.and_true, Bool.true_and, Bool.and_self, Bool.not_true, Bool.not_false, false_and, and_false, true_and, and_true, Option.isSome_some, xCallV, xCallVN, xCallB, xCh2, xCh3, isB, xDct1, xMake, sFldD, sPutD, List.map_cons, List.map_nil, z1, z2, z3]
    refine step _ eT ?_
    refine step (RW a0 t6 n m e .un .un .un .un .un (.imm (.tup (hdD m h))) (.imm (.int first)) (.imm (.int last)) (.imm far) (.imm dt) s15 (.imm (.int n2)) (.imm (.tup (edD m2 f))) .un) ?_ ?_
    · unfold RW
      simp only [sSeq, sSet, sSetN, sAsg, sDrop, sRet, sRetN, sIf, sPar, sAug, sAugL, sNil, xName, xC, xBin, xBinN, xBinT, xCall, xCallN, xNew, xTup, xLst, xLstRg, xTupRg, xRg1, xRg2, xTru, xNot, xAndT, xOrT, xAnd, xOr, xNotV, rdB, xIf, xNeg, xMet, xMet0, xMut, xMut0, aNil, aCons, vals, rdAll, DL.R.rd, oNone, oSome, xSlL, xSlT, gSet, gsNil, gsCons, gTupD, gLstD, gSubL, freeAt, isOw, kYes, List.getElem?_cons_zero, List.getElem?_cons_succ, List.set_cons_zero, List.set_cons_succ, Option.bind_some, Option.bind_none, if_true, if_false, Bool.false_eq_true, reduceIte, List.length_cons, List.length_nil, Bool.and_true, Bool.true_and, Bool.and_self, Bool.not_true, Bool.not_false, false_and, and_false, true_and, and_true, Option.isSome_some, xCallV, xCallVN, xCallB, xCh2, xCh3, isB, xDct1, xMake, sFldD, sPutD, List.map_cons, List.map_nil, e13]
    refine step (RW a0 t7 n m e .un .un .un .un .un (.imm (.tup (hdD m h))) (.imm (.int first)) (.imm (.int last)) (.imm far) (.imm dt) s15 (.imm (.int n2)) (.imm (.tup (edD m2 f))) (.imm (scD n2 m2 f g))) ?_ ?_
    · unfold RW
      simp only [sSeq, sSet, sSetN, sAsg, sDrop, sRet, sRetN, sIf, sPar, sAug, sAugL, sNil, xName, xC, xBin, xBinN, xBinT, xCall, xCallN, xNew, xTup, xLst, xLstRg, xTupRg, xRg1, xRg2, xTru, xNot, xAndT, xOrT, xAnd, xOr, xNotV, rdB, xIf, xNeg, xMet, xMet0, xMut, xMut0, aNil, aCons, vals, rdAll, DL.R.rd, oNone, oSome, xSlL, xSlT, gSet, gsNil, gsCons, gTupD, gLstD, gSubL, freeAt, isOw, kYes, List.getElem?_cons_zero, List.getElem?_cons_succ, List.set_cons_zero, List.set_cons_succ, Option.bind_some, Option.bind_none, if_true, if_false, Bool.false_eq_true, reduceIte, List.length_cons, List.length_nil, Bool.and_true, Bool.true_and, Bool.and_self, Bool.not_true, Bool.not_false, false_and, and_false, true_and, and_true, Option.isSome_some, xCallV, xCallVN, xCallB, xCh2, xCh3, isB, xDct1, xMake, sFldD, sPutD, List.map_cons, List.map_nil, e14, e15]
    refine step (RW a0 t7 n m e .un .un .un .un .un (.imm (.tup (hdD m h))) (.imm (.int first)) (.imm (.int last)) (.imm far) (.imm dt) s15 (.imm (.int n2)) (.imm (.tup (edD m2 f))) (.imm (scD n2 m2 f g))) ?_ ?_
    · unfold RW
      simp only [sSeq, sSet, sSetN, sAsg, sDrop, sRet, sRetN, sIf, sPar, sAug, sAugL, sNil, xName, xC, xBin, xBinN, xBinT, xCall, xCallN, xNew, xTup, xLst, xLstRg, xTupRg, xRg1, xRg2, xTru, xNot, xAndT, xOrT, xAnd, xOr, xNotV, rdB, xIf, xNeg, xMet, xMet0, xMut, xMut0, aNil, aCons, vals, rdAll, DL.R.rd, oNone, oSome, xSlL, xSlT, gSet, gsNil, gsCons, gTupD, gLstD, gSubL, freeAt, isOw, kYes, List.getElem?_cons_zero, List.getElem?_cons_succ, List.set_cons_zero, List.set_cons_succ, Option.bind_some, Option.bind_none, if_true, if_false, Bool.false_eq_true, reduceIte, List.length_cons, List.length_nil, Bool.and_true, Bool.true_and, Bool.and_self, Bool.not_true, Bool.not_false, false_and, and_false, true_and, and_true, Option.isSome_some, xCallV, xCallVN, xCallB, xCh2, xCh3, isB, xDct1, xMake, sFldD, sPutD, List.map_cons, List.map_nil, ini2, e16, y1, yes_ne, e17, dIsNotT]
    unfold RW
    simp only [sSeq, sSet, sSetN, sAsg, sDrop, sRet, sRetN, sIf, sPar, sAug, sAugL, sNil, xName, xC, xBin, xBinN, xBinT, xCall, xCallN, xNew, xTup, xLst, xLstRg, xTupRg, xRg1, xRg2, xTru, xNot, xAndT, xOrT, xAnd, xOr, xNotV, rdB, xIf, xNeg, xMet, xMet0, xMut, xMut0, aNil, aCons, vals, rdAll, DL.R.rd, oNone, oSome, xSlL, xSlT, gSet, gsNil, gsCons, gTupD, gLstD, gSubL, freeAt, isOw, kYes, List.getElem?_cons_zero, List.getElem?_cons_succ, List.set_cons_zero, List.set_cons_succ, Option.bind_some, Option.bind_none, if_true, if_false, Bool.false_eq_true, reduceIte, List.length_cons, List.length_nil, Bool.and_true, Bool.true_and, Bool.and_self, Bool.not_true, Bool.not_false, false_and, and_false, true_and, and_true, Option.isSome_some, xCallV, xCallVN, xCallB, xCh2, xCh3, isB, xDct1, xMake, sFldD, sPutD, List.map_cons, List.map_nil, e18, e19, y2]
  rcases tq with ⟨q1, q2⟩ | ⟨x, hx, ev, fs, T, q2⟩
  · refine road .non .un q2 ⟨true, rfl, ?_⟩ ?_
    · rw [nq, decide_eq_false q1]
      rfl
    · have z : dIsNot .non .non = some (.bl false) := rfl
      unfold sTold RW
      simp only [sSeq, sSet, sSetN, sAsg, sDrop, sRet, sRetN, sIf, sPar, sAug, sAugL, sNil, xName, xC, xBin, xBinN, xBinT, xCall, xCallN, xNew, xTup, xLst, xLstRg, xTupRg, xRg1, xRg2, xTru, xNot, xAndT, xOrT, xAnd, xOr, xNotV, rdB, xIf, xNeg, xMet, xMet0, xMut, xMut0, aNil, aCons, vals, rdAll, DL.R.rd, oNone, oSome, xSlL, xSlT, gSet, gsNil, gsCons, gTupD, gLstD, gSubL, freeAt, isOw, kYes, List.getElem?_cons_zero, List.getElem?_cons_succ, List.set_cons_zero, List.set_cons_succ, Option.bind_some, Option.bind_none, if_true, if_false, Bool.false_eq_true, reduceIte, List.length_cons, List.length_nil, Bool.and_true, Bool.true_and, Bool.and_self, Bool.not_true, Bool.not_false, false_and, and_false, true_and, and_true, Option.isSome_some, xCallV, xCallVN, xCallB, xCh2, xCh3, isB, xDct1, xMake, sFldD, sPutD, List.map_cons, List.map_nil, z]
  · obtain ⟨s15, eT⟩ := to x hx ev fs T
    refine road _ s15 q2 ⟨false, rfl, ?_⟩ eT
    rw [nq, decide_eq_true (kys_mem.mpr ⟨x, hx, ev⟩)]
    rfl
end K59

open PySem PySem.W PyProof.Rows
set_option maxHeartbeats 0 in
theorem PySem.Challenge.cw_basewright_k59_whole_rows_of_scores_holds : PySem.Challenge.rw_basewright_k59_whole_rows_of_scores.Holds := by
  w_on; o_law; k_head; (case hw => w_witness2)
  k_fill
  refine L2.walk_of (l := PySem.Challenge.rw_basewright_k59_whole_rows_of_scores) (n := 63) (k := 6) (x := "script") (CX := fun _ => L2.CX0) (sp := fun w => DL.spLawD _ 63) rfl (by decide) rfl ⟨rfl, by decide, by decide⟩ (fun w h Y => PySem.W.kIn_of Y) ?F (fun _ _ a ns hl ho hS => ⟨a, ns, rfl, hl, ho, hS, fun _ => rfl⟩) (fun _ _ _ _ _ h => h)
  case F =>
    intro w mg fa h KX G hmg
    refine' K59.all_mk K59.law_true KX G hmg ?ca_Graphic ?pg_Graphic ?hd_Graphic ?po_Graphic ?sa_Graphic ?mk_Graphic ?kc_Graphic ?n_Graphic_edges ?n_Graphic_size ?n_Graphic_vertices ?a0 ?l0 ?c0 ?k0 ?a1 ?l1 ?c1 ?k1 ?a2 ?l2 ?c2 ?k2 ?a3 ?l3 ?c3 ?k3 ?a4 ?l4 ?c4 ?k4 ?a5 ?l5 ?c5 ?k5 ?a6 ?l6 ?c6 ?k6 ?a7 ?l7 ?c7 ?k7 ?a8 ?l8 ?c8 ?k8 ?a9 ?l9 ?c9 ?k9 ?a10 ?l10 ?c10 ?k10 ?a11 ?l11 ?c11 ?k11 ?a12 ?i12 ?l12 ?c12 ?k12 ?a13 ?l13 ?c13 ?k13 ?a14 ?l14 ?c14 ?k14 ?a15 ?l15 ?c15 ?k15 ?a16 ?l16 ?c16 ?k16 ?z_len ?z_abs ?z_int ?z_range ?z_list ?z_tuple ?z_sorted ?z_min ?z_max ?z_sum ?z_any ?z_all ?z_isinstance ?z_set ?z_bool ?z_str ?z_dict ?z_zip ?z_enumerate ?z_reversed
    (case ca_Graphic => k_is); (case pg_Graphic => k_is); (case hd_Graphic => k_is); (case po_Graphic => k_is); (case sa_Graphic => k_is); (case mk_Graphic => k_is); (case kc_Graphic => k_is); (case n_Graphic_edges => k_is); (case n_Graphic_size => k_is); (case n_Graphic_vertices => k_is); (case a0 => k_is); (case l0 => k_is); (case c0 => k_is); (case k0 => k_is); (case a1 => k_is); (case l1 => k_is); (case c1 => k_is); (case k1 => k_is); (case a2 => k_is); (case l2 => k_is); (case c2 => k_is); (case k2 => k_is); (case a3 => k_is); (case l3 => k_is); (case c3 => k_is); (case k3 => k_is); (case a4 => k_is); (case l4 => k_is); (case c4 => k_is); (case k4 => k_is); (case a5 => k_is); (case l5 => k_is); (case c5 => k_is); (case k5 => k_is); (case a6 => k_is); (case l6 => k_is); (case c6 => k_is); (case k6 => k_is); (case a7 => k_is); (case l7 => k_is); (case c7 => k_is); (case k7 => k_is); (case a8 => k_is); (case l8 => k_is); (case c8 => k_is); (case k8 => k_is); (case a9 => k_is); (case l9 => k_is); (case c9 => k_is); (case k9 => k_is); (case a10 => k_is); (case l10 => k_is); (case c10 => k_is); (case k10 => k_is); (case a11 => k_is); (case l11 => k_is); (case c11 => k_is); (case k11 => k_is); (case a12 => k_is); (case i12 => k_is); (case l12 => k_is); (case c12 => k_is); (case k12 => k_is); (case a13 => k_is); (case l13 => k_is); (case c13 => k_is); (case k13 => k_is); (case a14 => k_is); (case l14 => k_is); (case c14 => k_is); (case k14 => k_is); (case a15 => k_is); (case l15 => k_is); (case c15 => k_is); (case k15 => k_is); (case a16 => k_is); (case l16 => k_is); (case c16 => k_is); (case k16 => k_is); (case z_len => k_is); (case z_abs => k_is); (case z_int => k_is); (case z_range => k_is); (case z_list => k_is); (case z_tuple => k_is); (case z_sorted => k_is); (case z_min => k_is); (case z_max => k_is); (case z_sum => k_is); (case z_any => k_is); (case z_all => k_is); (case z_isinstance => k_is); (case z_set => k_is); (case z_bool => k_is); (case z_str => k_is); (case z_dict => k_is); (case z_zip => k_is); (case z_enumerate => k_is); (case z_reversed => k_is)
