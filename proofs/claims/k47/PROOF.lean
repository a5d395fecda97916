import PyProof.Rows.All
import HandS.ForMost
import HandS.ForExc
import HandS.Walk
import HandS.Zip
import HandS.Wide
import HandS.TupAny
import HandS.TupMul
import HandS.Style
import HandS.Lambda
import HandS.TryOnly
import HandS.IsInst
import HandS.Deep
import HandS.SetFor
import HandS.SortInts
import HandS.Strs
import KE.KIndexOf
import KE.KRevSl
import KE.GoesMore
import KE.GoesEnum
import HandS.SetKeys
import KE.DataMinMax
import KE.LtData
import KE.DataEq
import PySem.Challenge.RW_walkstrides_k47_whole_walks_that_meet_th
set_option Elab.async false
set_option linter.all false
set_option maxRecDepth 100000
namespace DL
open PySem PySem.Spec PyProof.Rows L2

/-! ### tuples that are known to have no dict of their own: they stand as frozen objects -/
def SqN (H : Hp) (a : Addr) (vs : List V) : Prop := ∃ o : Obj, H a = some (.frz o (.tup vs)) ∧ o.dict = none
abbrev upT (H : Hp) (p : Addr) (o : Obj) (vs : List V) : Hp := L2.upd H p (.frz o (.tup vs))
theorem SqN.t {K : PySem.W.Frag} {H : Hp} {a : Addr} {vs : List V} (h : SqN H a vs) : SqT K H a vs := .inl (.inr ⟨h.choose, h.choose_spec.1⟩)
theorem SqN.new {H : Hp} {p : Addr} {o : Obj} {vs : List V} (h : o.dict = none) : SqN (upT H p o vs) p vs := ⟨o, upd_same, h⟩
section
variable {X : Cx} {pins : List (Addr × Obj)} {σ : L2.St} {H : Hp} {s : Shared}
theorem SqN.at (I : Inv X pins σ H s) {a : Addr} {vs : List V} (h : SqN H a vs) : ∃ (its : List Value) (n : Nat) (sl : Array (Option Value)), Vals vs its ∧ s.heap.get? a = some { cls := .type "tuple", dict := none, data := .seq its.toArray n, slots := sl } := by
  obtain ⟨⟨cls, dd, da, sl⟩, e, hd⟩ := h
  obtain ⟨e1, _, its, r, o2, e2, hc, n, hdat⟩ := I.hok _ _ e
  rw [e1] at e2
  cases e2
  simp only at hc hdat hd
  subst hc hdat hd
  exact ⟨its, n, sl, r, e1⟩
/-- a new tuple laid -/
theorem lay_tup (I : Inv X pins σ H s) {its : List Value} {vs : List V} (r : Vals vs its) (z : vs.length ≤ sizeLine) :
    Inv X pins σ (upT H s.heap.objs.size { cls := .type "tuple", data := .seq its.toArray } vs) { s with heap := s.heap.push { cls := .type "tuple", data := .seq its.toArray } } :=
  I.laid (t' := s.toks) (fun _ _ q => Heap.get?_push_of_some _ q) (Nat.le_refl _) ⟨Heap.get?_push_size _ rfl, z, its, r, IsTup.new _ _⟩
theorem fresh0 (I : Inv X pins σ H s) : H s.heap.objs.size = none := I.hok.fresh (Nat.le_refl _)
end
section
variable {X : Cx} {es : List Expr} {pos : Pos} {t : TA}
def tTupN (t : TA) : TE := fun σ H Q => t σ H fun xs H1 => xs.length ≤ sizeLine ∧ ∀ p o, H1 p = none → o.dict = none → Q (.ref p) (upT H1 p o xs)
theorem pe_tupN {x1} (h : PA X es t) : PE X (.Tuple es x1 pos) (tTupN t) :=
  ⟨fun pins s σ H Q I hq => wpAny_Tuple_spliced (thn (h.run pos pins s σ H _ I hq) fun us s1 ⟨xs, H1, I1, r, z, q⟩ =>
    ⟨r.length ▸ z, .ref s1.heap.objs.size, _, lay_tup I1 r z, rfl, q _ _ (fresh0 I1) rfl⟩)⟩
def rTupN (K : PySem.W.Frag) : List V → Hp → VK → Prop := fun xs H Q => ∃ p ys, xs = [.ref p] ∧ ((SqL K H p ys ∧ ∀ l o, H l = none → o.dict = none → Q (.ref l) (upT H l o ys)) ∨ (SqT K H p ys ∧ Q (.ref p) H))
theorem call_tupN : CallR X (.type "tuple") (rTupN X.K) := by
  intro pins s σ H xs us Q I r h
  obtain ⟨p, ys, rfl, h⟩ := h
  obtain ⟨u, rfl, rx⟩ := vals1 r
  cases rx
  rcases h with ⟨hq, q⟩ | ⟨hq, q⟩
  · obtain ⟨its, r', pl, hz⟩ := I.list hq
    have hlen := r'.length
    refine call_tuple_list pl.isList (fun h' kp => ?_) (by simp only [List.size_toArray] <;> omega)
    have I1 : Inv X pins σ H { s with heap := h' } := I.kept (t' := s.toks) kp
    exact ⟨.ref _, _, lay_tup I1 r' hz, rfl, q _ _ (fresh0 I1) rfl⟩
  · obtain ⟨its, r', pl, _⟩ := I.tuple hq
    exact call_tuple_same pl ⟨.ref _, H, I, rfl, q⟩
def rCatN (K : PySem.W.Frag) : R2 := fun x y H Q => ∃ a b xs ys, x = .ref a ∧ y = .ref b ∧ SqT K H a xs ∧ SqT K H b ys ∧ xs.length + ys.length ≤ sizeLine ∧
  (xs = [] → Q (.ref b) H) ∧ (xs ≠ [] → ys = [] → Q (.ref a) H) ∧ ∀ p o, H p = none → o.dict = none → Q (.ref p) (upT H p o (xs ++ ys))
theorem op_catN : OpR X (binaryOp .Add) (rCatN X.K) := by
  intro pins s σ H x y v u Q I rx ry h
  obtain ⟨a, b, xs, ys, rfl, rfl, ha, hb, hz, q0, q1, q2⟩ := h
  cases rx; cases ry
  obtain ⟨its, r1, p1, _⟩ := I.tuple ha
  obtain ⟨its2, r2, p2, _⟩ := I.tuple hb
  by_cases hx : xs = []
  · subst hx
    cases r1
    exact cat_tup0 p1 p2 ⟨.ref b, H, I, rfl, q0 rfl⟩
  · refine HT.cat_tup p1 p2 (fun z => hx (r1.nil_iff.mp z)) (fun z => ⟨.ref a, H, I, rfl, q1 hx (r2.nil_iff.mp z)⟩) (fun z => ?_) (by rw [← r1.length, ← r2.length]; exact hz)
    exact ⟨.ref _, _, lay_tup I (r1.append r2) (by rw [List.length_append]; exact hz), rfl, q2 _ _ (fresh0 I) rfl⟩
def rSlN (K : PySem.W.Frag) : V → Option Int → Option Int → Hp → VK → Prop := fun x lo hi H Q => ∃ a xs, x = .ref a ∧ SqT K H a xs ∧
  (HT.sIx xs.length 0 lo = 0 ∧ HT.sIx xs.length xs.length hi = xs.length → Q (.ref a) H) ∧ ∀ p o, H p = none → o.dict = none → Q (.ref p) (upT H p o (cutV xs lo hi))
theorem sl_tupN : SlR X (rSlN X.K) := by
  intro pins s σ H x v vl vu lo hi sl Q I rx hs pl pu h
  obtain ⟨a, xs, rfl, hx, q1, q2⟩ := h
  cases rx
  obtain ⟨its, r, ht, hz⟩ := I.tuple hx
  have hlen : its.toArray.size = xs.length := by rw [List.size_toArray]; exact r.length.symm
  refine ⟨"tuple", _, PyProof.Rows.slot_tuple_getitem.lookup, ht.typeIs, ?_⟩
  by_cases hw : HT.sIx xs.length 0 lo = 0 ∧ HT.sIx xs.length xs.length hi = xs.length
  · exact getItem_tuple_whole ht hs pl pu (by rw [hlen]; exact hw) ⟨.ref a, H, I, rfl, q1 hw⟩
  · refine HT.getItem_tuple_cut ht hs pl pu (by rw [hlen]; exact hw) ?_ (by rw [hlen]; exact hz)
    rw [hlen]
    exact ⟨.ref _, _, lay_tup I ((r.drop (HT.sIx xs.length 0 lo)).take (HT.sIx xs.length xs.length hi - HT.sIx xs.length 0 lo)) (Nat.le_trans (cutV_length xs lo hi) hz), rfl, q2 _ _ (fresh0 I) rfl⟩
/-- a, b, .. = a tuple or a list of that length -/
def gSeq (K : PySem.W.Frag) (n : Nat) (t : TGs) : TG := fun v σ H Q => gTup K n t v σ H Q ∨ gLst K n t v σ H Q
theorem pg_seq {t : TGs} {n : Nat} {k : Nat} (hc : X.calm = true) (h : PGs X es t) (hn : (assignEach es X.env).length = n := by rfl) (hst : (assignEach es X.env).findIdx? (·.1) = none := by rfl) : PG X (.Tuple es k pos) (gSeq X.K n t) :=
  ⟨fun pins s σ H v u Q I r hw => hw.elim (fun q => (pg_tup hc h hn hst).run pins s σ H v u Q I r q) fun q => (pg_lst hc h hn hst).run pins s σ H v u Q I r q⟩
end
end DL

namespace DL
open PySem PySem.Spec PyProof.Rows L2

/-- data by value; fn: the k-th def of the text; cup: the law's one changing list -/
inductive D where
  | non | bl (b : Bool) | int (i : Int) | str (x : Str) | tup (ds : List D) | raw (ds : List D) | dct (ks : List Key) (ds : List D) | lst (ds : List D) | fn (k : Nat) | cup | scr (ns : List Int)

abbrev C := Option (Int × Int)
inductive R (α : Type) where
  | ok (a : α) (c : C)
  | exc (k : Nat) (c : C)
  | bad
@[inline] def R.bind {α β : Type} (r : R α) (k : α → C → R β) : R β := match r with
  | .ok a c => k a c
  | .exc e c => .exc e c
  | .bad => .bad
def ofO {α : Type} (o : Option α) (c : C) : R α := match o with
  | some a => .ok a c
  | none => .bad
abbrev En := List (Option D)
abbrev Ex := En → C → R D
abbrev Exs := En → C → R (List D)
inductive Fl where
  | nx (env : En)
  | rt (d : D)
abbrev Sx := En → C → R Fl

/-- what is fixed while a def runs (fa: where the defs stand, ec: the classes of errors), and what it may not speak of: O0 (from without), F (its own changing lists) -/
structure Gh where
  K : PySem.W.Frag
  fa : Nat → Addr
  ec : Nat → Addr
  ca : Option Addr
  T : List (Addr × Str)
  O0 : Addr → Prop
  F : Addr → Prop
def Gh.O (g : Gh) (a : Addr) : Prop := g.O0 a ∨ g.F a

/-- the script: a list that nobody changes -/
def Scr (K : PySem.W.Frag) (H : Hp) (a : Addr) (ns : List Int) : Prop :=
  (∃ o, H a = some (.frz o (.lst (ns.map V.int)))) ∨ ∃ (o : Obj) (its : Array Value) (n : Nat), K.lookup a = some o ∧ o.cls = .type "list" ∧ o.dict = none ∧ o.data = .seq its n ∧ its.size ≤ sizeLine ∧ Vals (ns.map V.int) its.toList
mutual
def Rp (g : Gh) (H : Hp) : D → V → Prop
  | .non, v => v = .non
  | .bl b, v => v = .bl b
  | .int i, v => v = .int i
  | .str x, v => v = .str x
  | .tup ds, v => ∃ a vs, v = .ref a ∧ SqN H a vs ∧ RpL g H ds vs
  | .raw ds, v => ∃ a vs, v = .ref a ∧ SqT g.K H a vs ∧ RpL g H ds vs
  | .dct ks ds, v => ∃ a o vs, v = .ref a ∧ ks.length = vs.length ∧ H a = some (.frz o (.dK (ks.zip vs))) ∧ RpL g H ds vs
  | .lst ds, v => ∃ a vs, v = .ref a ∧ ¬ g.O a ∧ H a = some (.lst vs) ∧ RpL g H ds vs
  | .fn k, v => v = .ref (g.fa k)
  | .cup, v => ∃ a, g.ca = some a ∧ v = .ref a
  | .scr ns, v => ∃ a, v = .ref a ∧ Scr g.K H a ns
def RpL (g : Gh) (H : Hp) : List D → List V → Prop
  | [], vs => vs = []
  | d :: ds, vs => ∃ w ws, vs = w :: ws ∧ Rp g H d w ∧ RpL g H ds ws
end

/-- all that is tracked stays, but the lists in F and the tables of code -/
structure Keep (F : Addr → Prop) (H H' : Hp) : Prop where
  k : ∀ a o, H a = some o → (F a → ∀ xs, o ≠ .lst xs) → (∀ ps, o ≠ .tbl ps) → H' a = some o
  t : ∀ a, H a ≠ none → H' a ≠ none
theorem Keep.get {F : Addr → Prop} {H H' : Hp} (h : Keep F H H') (a : Addr) (o : HO) (e : H a = some o) (n : F a → ∀ xs, o ≠ .lst xs) (n' : ∀ ps, o ≠ .tbl ps := by intro _ z; cases z) : H' a = some o := h.k a o e n n'
theorem Keep.refl {F : Addr → Prop} {H : Hp} : Keep F H H := ⟨fun _ _ h _ _ => h, fun _ h => h⟩
theorem Keep.mono {F F' : Addr → Prop} {H H' : Hp} (h : Keep F H H') (f : ∀ a, F a → F' a) : Keep F' H H' := ⟨fun a o e n n' => h.k a o e (fun q => n (f a q)) n', h.t⟩
theorem Keep.trans {F F' : Addr → Prop} {H H1 H2 : Hp} (h : Keep F H H1) (h' : Keep F' H1 H2) (f : ∀ a, F' a → F a ∨ H a = none) : Keep F H H2 := ⟨fun a o e n n' =>
  h'.k a o (h.k a o e n n') (fun q => (f a q).elim n fun z => by rw [e] at z; cases z) n', fun a z => h'.t a (h.t a z)⟩
theorem Keep.trans1 {F : Addr → Prop} {H H1 H2 : Hp} (h : Keep F H H1) (h' : Keep F H1 H2) : Keep F H H2 := h.trans h' fun _ => .inl
/-- just as it was -/
def Sam (H H' : Hp) : Prop := ∀ a o, H a = some o → H' a = some o
theorem Sam.keep {F : Addr → Prop} {H H' : Hp} (h : Sam H H') : Keep F H H' := ⟨fun a o e _ _ => h a o e, fun a z => by
  cases e : H a with
  | none => exact absurd e z
  | some o => rw [h a o e]; simp⟩
theorem Sam.refl {H : Hp} : Sam H H := fun _ _ h => h
theorem Sam.new {H : Hp} {p : Addr} {o : HO} (h : H p = none) : Sam H (upd H p o) := fun a u e => by
  rw [upd_ne (ne_of_none e h)]; exact e
theorem Keep.new {F : Addr → Prop} {H : Hp} {p : Addr} {o : HO} (h : H p = none) : Keep F H (upd H p o) := (Sam.new h).keep
/-- a list is changed -/
theorem Keep.put {F : Addr → Prop} {H : Hp} {p : Addr} {xs ys : List V} (hF : F p) (h : H p = some (.lst xs)) : Keep F H (upd H p (.lst ys)) := ⟨fun a o e n _ => by
    have : a ≠ p := fun z => by subst z; rw [h] at e; cases e; exact n hF _ rfl
    rw [upd_ne this]; exact e, fun a z => by
    by_cases e : a = p
    · subst e; rw [upd_same]; simp
    · rw [upd_ne e]; exact z⟩
theorem Keep.rdT {F : Addr → Prop} {H H' : Hp} {K : PySem.W.Frag} {a : Addr} {vs : List V} (k : Keep F H H') (h : SqT K H a vs) : SqT K H' a vs := by
  rcases h with (h | ⟨o, h⟩) | h
  · exact .inl (.inl (k.get a _ h fun _ _ z => nomatch z))
  · exact .inl (.inr ⟨o, k.get a _ h fun _ _ z => nomatch z⟩)
  · exact .inr h
theorem Keep.rdN {F : Addr → Prop} {H H' : Hp} {a : Addr} {vs : List V} (k : Keep F H H') (h : SqN H a vs) : SqN H' a vs := by
  obtain ⟨o, h, hd⟩ := h
  exact ⟨o, k.get a _ h (fun _ _ z => nomatch z), hd⟩
theorem Keep.rdL {F : Addr → Prop} {H H' : Hp} {a : Addr} {vs : List V} (k : Keep F H H') (n : ¬ F a) (h : H a = some (.lst vs)) : H' a = some (.lst vs) := k.get a _ h fun q => (n q).elim

mutual
/-- data stays, and may be told in a narrower way -/
theorem Rp.move {g g' : Gh} {F : Addr → Prop} {H H' : Hp} (k : Keep F H H') (hK : g'.K = g.K) (hf : g'.fa = g.fa) (hc : g'.ca = g.ca) (hF : ∀ a, F a → g.O a) (hO : ∀ a, g'.O a → g.O a ∨ H a = none) :
    ∀ {d : D} {v : V}, Rp g H d v → Rp g' H' d v
  | .non, _, h => h
  | .bl _, _, h => h
  | .int _, _, h => h
  | .str _, _, h => h
  | .tup ds, _, ⟨a, vs, e, s, r⟩ => ⟨a, vs, e, k.rdN s, RpL.move k hK hf hc hF hO r⟩
  | .raw ds, _, ⟨a, vs, e, s, r⟩ => ⟨a, vs, e, by rw [hK]; exact k.rdT s, RpL.move k hK hf hc hF hO r⟩
  | .dct ks ds, _, ⟨a, o, vs, e, l, s, r⟩ => ⟨a, o, vs, e, l, k.get a _ s (fun _ _ z => nomatch z), RpL.move k hK hf hc hF hO r⟩
  | .lst ds, _, ⟨a, vs, e, n, s, r⟩ => ⟨a, vs, e, fun q => (hO a q).elim n fun z => (by rw [z] at s; cases s), k.rdL (fun q => n (hF a q)) s, RpL.move k hK hf hc hF hO r⟩
  | .fn _, _, h => by simp only [Rp] at h ⊢; rw [hf]; exact h
  | .cup, _, h => by simp only [Rp] at h ⊢; rw [hc]; exact h
  | .scr ns, _, ⟨a, e, h⟩ => ⟨a, e, hK ▸ h.imp (fun ⟨o, z⟩ => ⟨o, k.get a _ z fun _ _ q => nomatch q⟩) id⟩
theorem RpL.move {g g' : Gh} {F : Addr → Prop} {H H' : Hp} (k : Keep F H H') (hK : g'.K = g.K) (hf : g'.fa = g.fa) (hc : g'.ca = g.ca) (hF : ∀ a, F a → g.O a) (hO : ∀ a, g'.O a → g.O a ∨ H a = none) :
    ∀ {ds : List D} {vs : List V}, RpL g H ds vs → RpL g' H' ds vs
  | [], _, h => h
  | _ :: _, _, ⟨w, ws, e, h, r⟩ => ⟨w, ws, e, Rp.move k hK hf hc hF hO h, RpL.move k hK hf hc hF hO r⟩
end
theorem Rp.keep {g : Gh} {F : Addr → Prop} {H H' : Hp} {d : D} {v : V} (k : Keep F H H') (hF : ∀ a, F a → g.O a) (h : Rp g H d v) : Rp g H' d v := h.move k rfl rfl rfl hF fun _ => .inl
theorem RpL.keep {g : Gh} {F : Addr → Prop} {H H' : Hp} {ds : List D} {vs : List V} (k : Keep F H H') (hF : ∀ a, F a → g.O a) (h : RpL g H ds vs) : RpL g H' ds vs := h.move k rfl rfl rfl hF fun _ => .inl

theorem RpL.length {g : Gh} {H : Hp} : ∀ {ds : List D} {vs : List V}, RpL g H ds vs → vs.length = ds.length
  | [], _, h => by simp only [RpL] at h; subst h; rfl
  | _ :: _, _, h => by
    simp only [RpL] at h
    obtain ⟨w, ws, rfl, _, r⟩ := h
    simp [r.length]
theorem RpL.get {g : Gh} {H : Hp} : ∀ {ds : List D} {vs : List V} {i : Nat} {d : D}, RpL g H ds vs → ds[i]? = some d → ∃ v, vs[i]? = some v ∧ Rp g H d v
  | [], _, _, _, _, e => by simp at e
  | d :: ds, _, 0, _, h, e => by
    simp only [RpL] at h
    obtain ⟨w, ws, rfl, h1, r⟩ := h
    simp at e; subst e
    exact ⟨w, rfl, h1⟩
  | d :: ds, _, i + 1, _, h, e => by
    simp only [RpL] at h
    obtain ⟨w, ws, rfl, h1, r⟩ := h
    obtain ⟨v, h2, h3⟩ := r.get (i := i) (by simpa using e)
    exact ⟨v, by simpa using h2, h3⟩
theorem RpL.get' {g : Gh} {H : Hp} {ds : List D} {vs : List V} {i : Nat} {v : V} (h : RpL g H ds vs) (e : vs[i]? = some v) : ∃ d, ds[i]? = some d ∧ Rp g H d v := by
  obtain ⟨hi, _⟩ := List.getElem?_eq_some_iff.mp e
  rw [h.length] at hi
  obtain ⟨w, h1, h2⟩ := h.get (List.getElem?_eq_getElem hi)
  rw [e] at h1; cases h1
  exact ⟨_, List.getElem?_eq_getElem hi, h2⟩
theorem RpL.append {g : Gh} {H : Hp} : ∀ {ds es : List D} {vs ws : List V}, RpL g H ds vs → RpL g H es ws → RpL g H (ds ++ es) (vs ++ ws)
  | [], _, _, _, h, h' => by simp only [RpL] at h; subst h; exact h'
  | d :: ds, _, _, _, h, h' => by
    simp only [RpL] at h
    obtain ⟨w, ws, rfl, h1, r⟩ := h
    exact ⟨w, _, rfl, h1, r.append h'⟩
theorem RpL.one {g : Gh} {H : Hp} {d : D} {v : V} (h : Rp g H d v) : RpL g H [d] [v] := ⟨v, [], rfl, h, rfl⟩
theorem RpL.take {g : Gh} {H : Hp} : ∀ (n : Nat) {ds : List D} {vs : List V}, RpL g H ds vs → RpL g H (ds.take n) (vs.take n)
  | 0, _, _, _ => by simp only [List.take_zero]; rfl
  | n + 1, [], _, h => by simp only [RpL] at h; subst h; rfl
  | n + 1, d :: ds, _, h => by
    simp only [RpL] at h
    obtain ⟨w, ws, rfl, h1, r⟩ := h
    exact ⟨w, _, rfl, h1, r.take n⟩
theorem RpL.drop {g : Gh} {H : Hp} : ∀ (n : Nat) {ds : List D} {vs : List V}, RpL g H ds vs → RpL g H (ds.drop n) (vs.drop n)
  | 0, _, _, h => h
  | n + 1, [], _, h => by simp only [RpL] at h; subst h; rfl
  | n + 1, d :: ds, _, h => by
    simp only [RpL] at h
    obtain ⟨w, ws, rfl, h1, r⟩ := h
    exact r.drop n
theorem RpL.of_get {g : Gh} {H : Hp} : ∀ {ds : List D} {vs : List V}, ds.length = vs.length → (∀ (i : Nat) (d : D) (v : V), ds[i]? = some d → vs[i]? = some v → Rp g H d v) → RpL g H ds vs
  | [], [], _, _ => rfl
  | [], _ :: _, h, _ => by simp at h
  | _ :: _, [], h, _ => by simp at h
  | d :: ds, v :: vs, h, f => ⟨v, vs, rfl, f 0 d v rfl rfl, .of_get (by simpa using h) fun i e w a b => f (i + 1) e w (by simpa using a) (by simpa using b)⟩
theorem RpL.ints {g : Gh} {H : Hp} : ∀ {ns : List Int} {vs : List V}, RpL g H (ns.map D.int) vs → vs = ns.map V.int
  | [], _, h => h
  | n :: ns, _, h => by
    simp only [List.map_cons, RpL] at h
    obtain ⟨w, ws, rfl, h1, r⟩ := h
    simp only [Rp] at h1
    rw [h1, r.ints]; rfl
theorem RpL.bls {g : Gh} {H : Hp} : ∀ {bs : List Bool} {vs : List V}, RpL g H (bs.map D.bl) vs → vs = bs.map V.bl
  | [], _, h => h
  | n :: ns, _, h => by
    simp only [List.map_cons, RpL] at h
    obtain ⟨w, ws, rfl, h1, r⟩ := h
    simp only [Rp] at h1
    rw [h1, r.bls]; rfl

def Gh.Cu (g : Gh) (a : Addr) : Prop := g.ca = some a
/-- the cup stands, and the tables of code -/
def CupAt (g : Gh) (c : C) (H : Hp) : Prop := LamX.Tabs g.T H ∧ ((g.ca = none ∧ c = none) ∨ ∃ a x y, g.ca = some a ∧ c = some (x, y) ∧ g.O0 a ∧ H a = some (.lst [.int x, .int y]))
/-- what a statement may change -/
def Gh.Ch (g : Gh) (a : Addr) : Prop := g.F a ∨ g.ca = some a
theorem CupAt.sam {g : Gh} {c : C} {H H' : Hp} (h : CupAt g c H) (s : Sam H H') : CupAt g c H' := ⟨h.1.ext s, h.2.imp id fun ⟨a, x, y, h1, h2, h3, h4⟩ => ⟨a, x, y, h1, h2, h3, s _ _ h4⟩⟩
theorem CupAt.new {g : Gh} {c : C} {H : Hp} {p : Addr} {o : HO} (h : CupAt g c H) (n : H p = none) : CupAt g c (upd H p o) := h.sam (.new n)
theorem tabs_put {T : List (Addr × Str)} {H : Hp} {p : Addr} {xs ys : List V} (h : LamX.Tabs T H) (e : H p = some (.lst xs)) : LamX.Tabs T (upd H p (.lst ys)) := fun q hq => by
  obtain ⟨ps, h1, h2, h3⟩ := h q hq
  refine ⟨ps, ?_, h2, fun pos cv z => ?_⟩
  · rw [upd_ne (ne_of h1 e (by intro z; cases z))]; exact h1
  · obtain ⟨c, h4, h5⟩ := h3 pos cv z
    exact ⟨c, h4, by rw [upd_ne (ne_of h5 e (by intro z; cases z))]; exact h5⟩
theorem CupAt.put {g : Gh} {c : C} {H : Hp} {p : Addr} {xs ys : List V} (h : CupAt g c H) (e : H p = some (.lst xs)) (n : ¬ g.Cu p) : CupAt g c (upd H p (.lst ys)) := ⟨tabs_put h.1 e, h.2.imp id fun ⟨a, x, y, h1, h2, h3, h4⟩ => ⟨a, x, y, h1, h2, h3, by
  rw [upd_ne (show a ≠ p from fun z => n (by rw [← z]; exact h1))]; exact h4⟩⟩
theorem CupAt.at {g : Gh} {c : C} {H : Hp} (h : CupAt g c H) {a : Addr} (e : g.ca = some a) : ∃ x y, c = some (x, y) ∧ g.O0 a ∧ H a = some (.lst [.int x, .int y]) := by
  rcases h.2 with ⟨h, _⟩ | ⟨b, x, y, h1, h2, h3, h4⟩
  · rw [e] at h; cases h
  · rw [e] at h1; cases h1
    exact ⟨x, y, h2, h3, h4⟩
theorem CupAt.O0 {g : Gh} {c : C} {H : Hp} (h : CupAt g c H) {a : Addr} (e : g.ca = some a) : g.O0 a := by
  obtain ⟨_, _, _, q, _⟩ := h.at e
  exact q
theorem CupAt.cu {g : Gh} {c : C} {H : Hp} (h : CupAt g c H) : ∀ a, g.Cu a → g.O a := fun a e => .inl (h.O0 e)

structure Rel (g : Gh) (m : List Nat) (env : En) (c : C) (σ : L2.St) (H : Hp) : Prop where
  trk : ∀ a, g.O a → H a ≠ none
  cup : CupAt g c H
  apart : ∀ a, g.F a → ¬ g.O0 a
  len : env.length = σ.length
  sh : ∀ i d, i ∉ m → env[i]? = some (some d) → ∃ v, σ[i]? = some (some v) ∧ Rp g H d v
  ow : ∀ i d, i ∈ m → env[i]? = some (some d) → ∃ ds a vs, d = .lst ds ∧ σ[i]? = some (some (.ref a)) ∧ g.F a ∧ H a = some (.lst vs) ∧ RpL g H ds vs
  sep : ∀ i j d e v, i ∈ m → j ∈ m → i ≠ j → env[i]? = some (some d) → env[j]? = some (some e) → σ[i]? = some (some v) → σ[j]? ≠ some (some v)

theorem Rel.chO {g : Gh} {m : List Nat} {env : En} {c : C} {σ : L2.St} {H : Hp} (r : Rel g m env c σ H) : ∀ a, g.Ch a → g.O a := fun a h => h.elim .inr fun e => r.cup.cu a e
/-- an expression has run -/
theorem Rel.cu {g : Gh} {m : List Nat} {env : En} {c c' : C} {σ : L2.St} {H H' : Hp} (r : Rel g m env c σ H) (k : Keep g.Cu H H') (cu : CupAt g c' H') : Rel g m env c' σ H' := by
  refine ⟨fun a ha => ?_, cu, r.apart, r.len, fun i d n e => ?_, fun i d n e => ?_, r.sep⟩
  · exact k.t a (r.trk a ha)
  · obtain ⟨v, h1, h2⟩ := r.sh i d n e
    exact ⟨v, h1, h2.keep k r.cup.cu⟩
  · obtain ⟨ds, a, vs, h1, h2, h3, h4, h5⟩ := r.ow i d n e
    refine ⟨ds, a, vs, h1, h2, h3, k.get a _ h4 fun z => absurd (r.cup.O0 z) (r.apart a h3), h5.keep k r.cup.cu⟩

/-- what an expression's end asks; T says how the value is told -/
def Post {α β : Type} (W : WX) (g : Gh) (T : Hp → α → β → Prop) (σ : L2.St) (H : Hp) (r : R α) (Q : β → Hp → Prop) : Prop := match r with
  | .ok d c => ∀ v H', Keep g.Cu H H' → CupAt g c H' → T H' d v → Q v H'
  | .exc k c => ∀ H', Keep g.Cu H H' → CupAt g c H' → W (.ref (g.ec k)) none σ H'
  | .bad => False
theorem Post.mono {α β : Type} {W : WX} {g : Gh} {T : Hp → α → β → Prop} {σ : L2.St} {H H1 : Hp} {r : R α} {Q : β → Hp → Prop} (h : Post W g T σ H r Q) (k : Keep g.Cu H H1) : Post W g T σ H1 r Q := by
  cases r with
  | ok d c => exact fun v H' k' => h v H' (k.trans1 k')
  | exc e c => exact fun H' k' => h H' (k.trans1 k')
  | bad => exact h
theorem Post.imp {α β : Type} {W : WX} {g : Gh} {T : Hp → α → β → Prop} {σ : L2.St} {H : Hp} {r : R α} {Q Q' : β → Hp → Prop} (h : Post W g T σ H r Q) (f : ∀ v H', Q v H' → Q' v H') : Post W g T σ H r Q' := by
  cases r with
  | ok d c => exact fun v H' k' cu t => f _ _ (h v H' k' cu t)
  | exc e c => exact h
  | bad => exact h

/-- told with its top open: a list of the frame's own may be meant -/
def RpS (g : Gh) (H : Hp) : D → V → Prop
  | .lst ds, v => ∃ a vs, v = .ref a ∧ ¬ g.Cu a ∧ H a = some (.lst vs) ∧ RpL g H ds vs
  | d, v => Rp g H d v
/-- the fixed part of the readings -/
structure Fx where
  K : PySem.W.Frag
  fa : Nat → Addr
  ec : Nat → Addr
  T : List (Addr × Str)
def Gh.is (g : Gh) (φ : Fx) : Prop := g.K = φ.K ∧ g.fa = φ.fa ∧ g.ec = φ.ec ∧ g.T = φ.T
def tG {α β : Type} (T : Gh → Hp → α → β → Prop) (φ : Fx) (W : WX) (m : List Nat) (f : En → C → R α) : L2.St → Hp → (β → Hp → Prop) → Prop := fun σ H Q =>
  ∃ g env c, g.is φ ∧ Rel g m env c σ H ∧ Post W g (T g) σ H (f env c) Q
/-- an expression, told in full | by its top -/
abbrev tD (φ : Fx) (W : WX) (m : List Nat) (f : Ex) : TE := tG Rp φ W m f
abbrev tS (φ : Fx) (W : WX) (m : List Nat) (f : Ex) : TE := tG RpS φ W m f
def RpN (k : Nat) (g : Gh) (H : Hp) (ds : List D) (vs : List V) : Prop := RpL g H ds vs ∧ ds.length = k
abbrev tAs (φ : Fx) (W : WX) (m : List Nat) (k : Nat) (f : Exs) : TA := tG (RpN k) φ W m f
/-- a test; a part of a slice -/
def RpE {α : Type} (_ : Gh) (_ : Hp) : α → α → Prop := fun d b => d = b
abbrev tT (φ : Fx) (W : WX) (m : List Nat) (f : En → C → R Bool) : TT := tG RpE φ W m f
abbrev tO (φ : Fx) (W : WX) (m : List Nat) (f : En → C → R (Option Int)) : TO := tG RpE φ W m f

theorem Rp.sh {g : Gh} {c : C} {H : Hp} (cu : CupAt g c H) : ∀ {d : D} {v : V}, Rp g H d v → RpS g H d v
  | .lst ds, _, ⟨a, vs, e, n, s, r⟩ => ⟨a, vs, e, fun z => n (cu.cu a z), s, r⟩
  | .non, _, h => h
  | .bl _, _, h => h
  | .int _, _, h => h
  | .str _, _, h => h
  | .tup _, _, h => h
  | .raw _, _, h => h
  | .dct _ _, _, h => h
  | .fn _, _, h => h
  | .cup, _, h => h
  | .scr _, _, h => h
theorem RpS.keep {g : Gh} {H H' : Hp} {c : C} (cu : CupAt g c H) (k : Keep g.Cu H H') : ∀ {d : D} {v : V}, RpS g H d v → RpS g H' d v
  | .lst ds, _, ⟨a, vs, e, n, s, r⟩ => ⟨a, vs, e, n, k.rdL n s, r.keep k cu.cu⟩
  | .non, _, h => h
  | .bl _, _, h => h
  | .int _, _, h => h
  | .str _, _, h => h
  | .tup _, _, h => Rp.keep (d := .tup _) k cu.cu h
  | .raw _, _, h => Rp.keep (d := .raw _) k cu.cu h
  | .dct _ _, _, h => Rp.keep (d := .dct _ _) k cu.cu h
  | .fn _, _, h => h
  | .cup, _, h => h
  | .scr _, _, h => Rp.keep (d := .scr _) k cu.cu h

/-- one thing after another -/
theorem Post.bind {α β α' β' : Type} {T : Hp → α → β → Prop} {T' : Hp → α' → β' → Prop} {W : WX} {g : Gh} {ra : R α} {k : α → C → R α'} {σ : L2.St} {H : Hp} {Q : β' → Hp → Prop}
    (h : Post W g T' σ H (ra.bind k) Q) : Post W g T σ H ra fun v H1 => ∃ d c, Keep g.Cu H H1 ∧ CupAt g c H1 ∧ T H1 d v ∧ Post W g T' σ H1 (k d c) Q := by
  cases ra with
  | ok d c1 => exact fun v H' ke cu t => ⟨d, c1, ke, cu, t, Post.mono (r := k d c1) h ke⟩
  | exc e c1 => exact h
  | bad => exact h
theorem tG_mono {α β : Type} {T : Gh → Hp → α → β → Prop} {φ : Fx} {W : WX} {m : List Nat} {f : En → C → R α} {σ : L2.St} {H : Hp} {Q Q' : β → Hp → Prop} (h : tG T φ W m f σ H Q) (q : ∀ v H', Q v H' → Q' v H') : tG T φ W m f σ H Q' := by
  obtain ⟨g, env, c, ig, r, p⟩ := h
  exact ⟨g, env, c, ig, r, p.imp q⟩
/-- a Post of a value there -/
theorem Post.val {α β : Type} {W : WX} {g : Gh} {T : Hp → α → β → Prop} {σ : L2.St} {H : Hp} {d : α} {c : C} {Q : β → Hp → Prop} {v : β} (h : Post W g T σ H (.ok d c) Q) (cu : CupAt g c H) (t : T H d v) : Q v H := h v H .refl cu t
theorem Post.new {α β : Type} {W : WX} {g : Gh} {T : Hp → α → β → Prop} {σ : L2.St} {H : Hp} {d : α} {c : C} {Q : β → Hp → Prop} {v : β} {p : Addr} {o : HO} (h : Post W g T σ H (.ok d c) Q) (cu : CupAt g c H) (n : H p = none) (t : T (upd H p o) d v) : Q v (upd H p o) :=
  h v _ (.new n) (cu.new n) t

theorem PE.imp {X : Cx} {e : Expr} {t t' : TE} (h : PE X e t) (f : ∀ σ H Q, t' σ H Q → t σ H Q) : PE X e t' := ⟨fun pins s σ H Q I q => h.run pins s σ H Q I (f σ H Q q)⟩
theorem PT.imp {X : Cx} {e : Expr} {t t' : TT} (h : PT X e t) (f : ∀ σ H Q, t' σ H Q → t σ H Q) : PT X e t' := ⟨fun pins s σ H Q I q => h.run pins s σ H Q I (f σ H Q q)⟩
theorem PA.imp {X : Cx} {e : List Expr} {t t' : TA} (h : PA X e t) (f : ∀ σ H Q, t' σ H Q → t σ H Q) : PA X e t' := ⟨fun pos pins s σ H Q I q => h.run pos pins s σ H Q I (f σ H Q q)⟩
theorem PS.imp {X : Cx} {e : Stmt} {t t' : TS} (h : PS X e t) (f : ∀ D σ H, t' D σ H → t D σ H) : PS X e t' := ⟨fun pins s σ H D I q => h.run pins s σ H D I (f D σ H q)⟩
theorem PSs.imp {X : Cx} {e : List Stmt} {t t' : TS} (h : PSs X e t) (f : ∀ D σ H, t' D σ H → t D σ H) : PSs X e t' := ⟨fun pins s σ H D I q => h.run pins s σ H D I (f D σ H q)⟩
end DL

namespace DL
open PySem PySem.Spec PyProof.Rows L2

/-! ### what expressions mean -/
def eC (d : D) : Ex := fun _ c => .ok d c
def eV (i : Nat) : Ex := fun env c => match env.getD i none with
  | some d => .ok d c
  | none => .bad
def e1 (f : D → Option D) (a : Ex) : Ex := fun env c => (a env c).bind fun x c1 => ofO (f x) c1
def e2 (f : D → D → Option D) (a b : Ex) : Ex := fun env c => (a env c).bind fun x c1 => (b env c1).bind fun y c2 => ofO (f x y) c2
def eT (a : Ex) : En → C → R Bool := fun env c => (a env c).bind fun x c1 => match x with
  | .bl b => .ok b c1
  | _ => .bad
def tAnd (a b : En → C → R Bool) : En → C → R Bool := fun env c => (a env c).bind fun x c1 => match x with
  | true => b env c1
  | false => .ok false c1
def tOr (a b : En → C → R Bool) : En → C → R Bool := fun env c => (a env c).bind fun x c1 => match x with
  | true => .ok true c1
  | false => b env c1
def tNot (a : En → C → R Bool) : En → C → R Bool := fun env c => (a env c).bind fun x c1 => .ok (!x) c1
def eIf {α : Type} (t : En → C → R Bool) (a b : En → C → R α) : En → C → R α := fun env c => (t env c).bind fun x c1 => match x with
  | true => a env c1
  | false => b env c1
def eAnd (a b : Ex) : Ex := fun env c => (eT a env c).bind fun x c1 => match x with
  | true => b env c1
  | false => .ok (.bl false) c1
def eOr (a b : Ex) : Ex := fun env c => (eT a env c).bind fun x c1 => match x with
  | true => .ok (.bl true) c1
  | false => b env c1
def eNot (a : Ex) : Ex := fun env c => (eT a env c).bind fun x c1 => .ok (.bl (!x)) c1
def aN : Exs := fun _ c => .ok [] c
def aC (a : Ex) (r : Exs) : Exs := fun env c => (a env c).bind fun d c1 => (r env c1).bind fun ds c2 => .ok (d :: ds) c2
/-- lists have a largest length -/
def room (n : Nat) : Bool := Nat.ble n 16777216
def eTup (as : Exs) : Ex := fun env c => (as env c).bind fun ds c1 => match room ds.length with
  | true => .ok (.tup ds) c1
  | false => .bad
def eLst (as : Exs) : Ex := fun env c => (as env c).bind fun ds c1 => match room ds.length with
  | true => .ok (.lst ds) c1
  | false => .bad
def eCall (fn : List D → C → R D) (as : Exs) : Ex := fun env c => (as env c).bind fn
def oN : En → C → R (Option Int) := fun _ c => .ok none c
def oS (a : Ex) : En → C → R (Option Int) := fun env c => (a env c).bind fun d c1 => match d with
  | .int i => .ok (some i) c1
  | _ => .bad
def eSl (f : D → Option Int → Option Int → Option D) (a : Ex) (lo hi : En → C → R (Option Int)) : Ex := fun env c => (a env c).bind fun x c1 => (lo env c1).bind fun l c2 => (hi env c2).bind fun h c3 => ofO (f x l h) c3

theorem room_of {n : Nat} (h : room n = true) : n ≤ sizeLine := by
  rw [sizeLine_eq]
  exact Nat.le_of_ble_eq_true h

section
variable {X : Cx} {φ : Fx} {W : WX} {m : List Nat} {a b e : Expr} {es : List Expr} {fa fb f : Ex} {as : Exs} {pos : Pos}

theorem de_of {t : TE} {T : Gh → Hp → D → V → Prop} {d : D} (h : PE X e t) (f : ∀ g σ H c Q, g.is φ → CupAt g c H → (∀ v, T g H d v → Q v H) → t σ H Q) : PE X e (tG T φ W m (eC d)) :=
  PE.imp h fun σ H Q ⟨g, env, c, ig, r, p⟩ => f g σ H c Q ig r.cup fun v hv => p v H .refl r.cup hv
theorem de_int {i j} : PE X (.Constant (.int i) j pos) (tD φ W m (eC (.int i))) := de_of pe_int fun _ _ _ _ _ _ _ q => q _ rfl
theorem de_bl {b j} : PE X (.Constant (.bool b) j pos) (tD φ W m (eC (.bl b))) := de_of pe_bl fun _ _ _ _ _ _ _ q => q _ rfl
theorem de_non {j} : PE X (.Constant .none j pos) (tD φ W m (eC .non)) := de_of pe_non fun _ _ _ _ _ _ _ q => q _ rfl
theorem de_str {x j} : PE X (.Constant (.str x) j pos) (tD φ W m (eC (.str x))) := de_of pe_str fun _ _ _ _ _ _ _ q => q _ rfl
/-- a whole number of the module's | a def of it -/
theorem de_gint {x : Str} {n : Int} {t : Tok} (hm : X.mg x = some (.int n t)) (hg : Gl X x := by rfl) (hd : (x == ("__debug__" : Str)) = false := by decide) : PE X (.Name x pos) (tD φ W m (eC (.int n))) :=
  de_of (pe_glob (v := .int n) hg hm ⟨_, rfl⟩ hd) fun _ _ _ _ _ _ _ q => q _ rfl
theorem de_gfn {x : Str} {k : Nat} (hm : X.mg x = some (.ref (φ.fa k))) (hg : Gl X x := by rfl) (hd : (x == ("__debug__" : Str)) = false := by decide) : PE X (.Name x pos) (tD φ W m (eC (.fn k))) :=
  de_of (pe_glob (v := .ref (φ.fa k)) hg hm rfl hd) fun _ _ _ _ _ ig _ q => q _ (by show V.ref _ = V.ref _; rw [ig.2.1])

theorem getD_some {env : En} {i : Nat} {d : D} (h : env.getD i none = some d) : env[i]? = some (some d) := by
  rw [List.getD_eq_getElem?_getD] at h
  cases e : env[i]? with
  | none => rw [e] at h; cases h
  | some o => rw [e] at h; exact congrArg some h
/-- a name of the def -/
theorem de_v {i : Nat} (h : PE X e (tVar i)) (hm : i ∉ m := by decide) : PE X e (tD φ W m (eV i)) := PE.imp h fun σ H Q ⟨g, env, c, ig, r, p⟩ => by
  unfold eV at p
  cases hd : env.getD i none with
  | none => rw [hd] at p; exact p.elim
  | some d =>
    rw [hd] at p
    obtain ⟨v, h1, h2⟩ := r.sh i d hm (getD_some hd)
    exact ⟨v, h1, p.val r.cup h2⟩
theorem ds_v {i : Nat} (h : PE X e (tVar i)) : PE X e (tS φ W m (eV i)) := PE.imp h fun σ H Q ⟨g, env, c, ig, r, p⟩ => by
  unfold eV at p
  cases hd : env.getD i none with
  | none => rw [hd] at p; exact p.elim
  | some d =>
    rw [hd] at p
    by_cases hm : i ∈ m
    · obtain ⟨ds, a, vs, rfl, h2, h3, h4, h5⟩ := r.ow i d hm (getD_some hd)
      exact ⟨_, h2, p.val r.cup ⟨a, vs, rfl, fun z => r.apart a h3 (r.cup.O0 z), h4, h5⟩⟩
    · obtain ⟨v, h1, h2⟩ := r.sh i d hm (getD_some hd)
      exact ⟨v, h1, p.val r.cup (h2.sh r.cup)⟩
theorem sh (h : PE X e (tD φ W m f)) : PE X e (tS φ W m f) := PE.imp h fun σ H Q ⟨g, env, c, ig, r, p⟩ => ⟨g, env, c, ig, r, by
  cases q : f env c with
  | ok d c1 => rw [q] at p; exact fun v H' k cu t => p v H' k cu (t.sh cu)
  | exc e c1 => rw [q] at p; exact p
  | bad => rw [q] at p; exact p⟩

/-- two-place operations by values -/
def Op2 (φ : Fx) (r : R2) (f : D → D → Option D) : Prop := ∀ (W : WX) (g : Gh) (σ : L2.St) (H : Hp) (c : C) (x y : V) (d e : D) (Q : VK), g.is φ → CupAt g c H → (∀ a, g.O a → H a ≠ none) → RpS g H d x → RpS g H e y → Post W g (Rp g) σ H (ofO (f d e) c) Q → r x y H Q
theorem op2_run {r : R2} {k : D → D → Option D} (o : Op2 φ r k) {σ : L2.St} {H : Hp} {Q : VK} (h : tD φ W m (e2 k fa fb) σ H Q) : tOp r (tS φ W m fa) (tS φ W m fb) σ H Q := by
  obtain ⟨g, env, c, ig, rel, p⟩ := h
  refine ⟨g, env, c, ig, rel, (Post.bind (T := RpS g) p).imp fun x H1 ⟨d, c1, k1, cu1, t1, p1⟩ => ?_⟩
  have rel1 := rel.cu k1 cu1
  refine ⟨g, env, c1, ig, rel1, (Post.bind (T := RpS g) p1).imp fun y H2 ⟨e, c2, k2, cu2, t2, p2⟩ => ?_⟩
  exact o W g σ H2 c2 x y d e Q ig cu2 (rel1.cu k2 cu2).trk (t1.keep cu1 k2) t2 p2
theorem de_op {op : Operator} {r : R2} {k : D → D → Option D} (ho : OpR X (binaryOp op) r) (o : Op2 φ r k) (ha : PE X a (tS φ W m fa)) (hb : PE X b (tS φ W m fb)) : PE X (.BinOp a op b pos) (tD φ W m (e2 k fa fb)) :=
  PE.imp (pe_op ho ha hb) fun _ _ _ h => op2_run o h
theorem de_cmp {op : CmpOp} {r : R2} {k : D → D → Option D} (ho : OpR X (compareOp op) r) (o : Op2 φ r k) (ha : PE X a (tS φ W m fa)) (hb : PE X b (tS φ W m fb)) (hm : behindInMarks op b = false) : PE X (.Compare a [op] [b] pos) (tD φ W m (e2 k fa fb)) :=
  PE.imp (pe_cmpR ho ha hb hm) fun _ _ _ h => op2_run o h
theorem de_ix {r : R2} {k : D → D → Option D} (ho : IxR X r) (o : Op2 φ r k) (ha : PE X a (tS φ W m fa)) (hb : PE X b (tS φ W m fb)) (hs : PlainIx b := by exact fun _ _ => rfl) : PE X (.Subscript a b pos) (tD φ W m (e2 k fa fb)) :=
  PE.imp (pe_ix ho ha hb hs) fun _ _ _ h => op2_run o h
/-- a value that is True or False, as a test -/
theorem tT_of {t : TE} {σ : L2.St} {H : Hp} {Q : Bool → Hp → Prop} (hr : ∀ σ H Q, tD φ W m f σ H Q → t σ H Q) (h : tT φ W m (eT f) σ H Q) : t σ H fun x H' => ∃ k, x = .bl k ∧ Q k H' := by
  obtain ⟨g, env, c, ig, rel, p⟩ := h
  refine hr _ _ _ ⟨g, env, c, ig, rel, (Post.bind (T := Rp g) p).imp fun x H1 ⟨d, c1, k1, cu1, t1, p1⟩ => ?_⟩
  cases d with
  | bl b => exact ⟨b, t1, p1 b H1 .refl cu1 rfl⟩
  | _ => exact p1.elim
theorem dt_cmp {op : CmpOp} {r : R2} {k : D → D → Option D} (ho : OpR X (compareOp op) r) (o : Op2 φ r k) (ha : PE X a (tS φ W m fa)) (hb : PE X b (tS φ W m fb)) (hm : behindInMarks op b = false) : PT X (.Compare a [op] [b] pos) (tT φ W m (eT (e2 k fa fb))) :=
  PT.imp (pt_cmpR ho ha hb hm) fun _ _ _ h => tT_of (fun _ _ _ => op2_run o) h
theorem dt_val (h : PE X e (tD φ W m f)) (he : ∀ whole, isTrue e X.env whole = (do let v ← whole; standAt e.pos; holding [v] (truthy v)) := by intro _; rfl) : PT X e (tT φ W m (eT f)) :=
  PT.imp (pt_val h he) fun _ _ _ h => tT_of (fun _ _ _ h => h) h
/-- a < b < c -/
def eCh (k k' : D → D → Option D) (a b c : Ex) : Ex := fun env s => (a env s).bind fun x s1 => (b env s1).bind fun y s2 => (ofO (k x y) s2).bind fun z s3 => match z with
  | .bl true => (c env s3).bind fun w s4 => ofO (k' y w) s4
  | .bl false => .ok (.bl false) s3
  | _ => .bad
theorem chain_run {c : Expr} {fc : Ex} {r r' : R2} {k k' : D → D → Option D} (o : Op2 φ r k) (o' : Op2 φ r' k') {σ : L2.St} {H : Hp} {Q : VK} (h : tD φ W m (eCh k k' fa fb fc) σ H Q) : tChain r r' (tS φ W m fa) (tS φ W m fb) (tS φ W m fc) σ H Q := by
  obtain ⟨g, env, c, ig, rel, p⟩ := h
  refine ⟨g, env, c, ig, rel, (Post.bind (T := RpS g) p).imp fun x H1 ⟨d, c1, k1, cu1, t1, p1⟩ => ?_⟩
  have rel1 := rel.cu k1 cu1
  refine ⟨g, env, c1, ig, rel1, (Post.bind (T := RpS g) p1).imp fun y H2 ⟨e, c2, k2, cu2, t2, p2⟩ => ?_⟩
  have rel2 := rel1.cu k2 cu2
  refine o W g σ H2 c2 x y d e _ ig cu2 rel2.trk (t1.keep cu1 k2) t2 ((Post.bind (T := Rp g) p2).imp fun z H3 ⟨u, c3, k3, cu3, t3, p3⟩ => ?_)
  have rel3 := rel2.cu k3 cu3
  cases u with
  | bl b =>
    refine ⟨b, t3, ?_⟩
    cases b with
    | true =>
      refine ⟨g, env, c3, ig, rel3, (Post.bind (T := RpS g) p3).imp fun w H4 ⟨u, c4, k4, cu4, t4, p4⟩ => ?_⟩
      exact o' W g σ H4 c4 y w e u Q ig cu4 (rel3.cu k4 cu4).trk ((t2.keep cu2 k3).keep cu3 k4) t4 p4
    | false => exact p3.val cu3 rfl
  | _ => exact p3.elim
theorem de_chain {c : Expr} {fc : Ex} {op op' : CmpOp} {r r' : R2} {k k' : D → D → Option D} (ho : OpR X (compareOp op) r) (ho' : OpR X (compareOp op') r') (o : Op2 φ r k) (o' : Op2 φ r' k')
    (ha : PE X a (tS φ W m fa)) (hb : PE X b (tS φ W m fb)) (hc : PE X c (tS φ W m fc)) (hm : lastMarks [op, op'] [b, c] = false := by with_unfolding_all rfl) : PE X (.Compare a [op, op'] [b, c] pos) (tD φ W m (eCh k k' fa fb fc)) :=
  PE.imp (pe_chain ho ho' ha hb hc hm) fun _ _ _ h => chain_run (c := c) o o' h
theorem dt_chain {c : Expr} {fc : Ex} {op op' : CmpOp} {r r' : R2} {k k' : D → D → Option D} (ho : OpR X (compareOp op) r) (ho' : OpR X (compareOp op') r') (o : Op2 φ r k) (o' : Op2 φ r' k')
    (ha : PE X a (tS φ W m fa)) (hb : PE X b (tS φ W m fb)) (hc : PE X c (tS φ W m fc)) (hm : lastMarks [op, op'] [b, c] = false := by with_unfolding_all rfl) : PT X (.Compare a [op, op'] [b, c] pos) (tT φ W m (eT (eCh k k' fa fb fc))) :=
  PT.imp (pt_chain ho ho' ha hb hc hm) fun _ _ _ h => tT_of (fun _ _ _ => chain_run (c := c) o o') h
end
end DL

namespace DL
open PySem PySem.Spec PyProof.Rows L2
section
variable {X : Cx} {φ : Fx} {W : WX} {m : List Nat} {a b e : Expr} {es : List Expr} {fa fb f : Ex} {ta tb : En → C → R Bool} {as : Exs} {pos : Pos}
theorem PW.imp {t t' : TT} (h : PW X e t) (f : ∀ σ H Q, t' σ H Q → t σ H Q) : PW X e t' := ⟨fun whole pins s σ H Q I q => h.run whole pins s σ H Q I (f σ H Q q)⟩
theorem dw_and1 (h : PT X a (tT φ W m ta)) : PW X (.BoolOp .And [a] pos) (tT φ W m ta) := pw_and1 h
theorem dw_or1 (h : PT X a (tT φ W m ta)) : PW X (.BoolOp .Or [a] pos) (tT φ W m ta) := pw_or1 h
theorem dw_and (ha : PT X a (tT φ W m ta)) (hb : PW X (.BoolOp .And (b :: es) pos) (tT φ W m tb)) : PW X (.BoolOp .And (a :: b :: es) pos) (tT φ W m (DL.tAnd ta tb)) :=
  PW.imp (pw_and ha hb) fun σ H Q ⟨g, env, c, ig, rel, p⟩ => ⟨g, env, c, ig, rel, (Post.bind (T := RpE g) p).imp fun x H1 ⟨d, c1, k1, cu1, t1, p1⟩ => by
    cases t1
    cases x with
    | true => exact ⟨g, env, c1, ig, rel.cu k1 cu1, p1⟩
    | false => exact p1.val cu1 rfl⟩
theorem dw_or (ha : PT X a (tT φ W m ta)) (hb : PW X (.BoolOp .Or (b :: es) pos) (tT φ W m tb)) : PW X (.BoolOp .Or (a :: b :: es) pos) (tT φ W m (DL.tOr ta tb)) :=
  PW.imp (pw_or ha hb) fun σ H Q ⟨g, env, c, ig, rel, p⟩ => ⟨g, env, c, ig, rel, (Post.bind (T := RpE g) p).imp fun x H1 ⟨d, c1, k1, cu1, t1, p1⟩ => by
    cases t1
    cases x with
    | false => exact ⟨g, env, c1, ig, rel.cu k1 cu1, p1⟩
    | true => exact p1.val cu1 rfl⟩
theorem dt_not (ha : PT X a (tT φ W m ta)) : PT X (.UnaryOp .Not a pos) (tT φ W m (DL.tNot ta)) :=
  PT.imp (pt_not ha) fun σ H Q ⟨g, env, c, ig, rel, p⟩ => ⟨g, env, c, ig, rel, (Post.bind (T := RpE g) p).imp fun x H1 ⟨d, c1, k1, cu1, t1, p1⟩ => by
    cases t1
    exact p1.val cu1 rfl⟩
theorem de_if {T : Gh → Hp → D → V → Prop} {c : Expr} (hc : PT X c (tT φ W m ta)) (ha : PE X a (tG T φ W m fa)) (hb : PE X b (tG T φ W m fb)) : PE X (.IfExp c a b pos) (tG T φ W m (eIf ta fa fb)) :=
  PE.imp (pe_ifExp hc ha hb) fun σ H Q ⟨g, env, c, ig, rel, p⟩ => ⟨g, env, c, ig, rel, (Post.bind (T := RpE g) p).imp fun x H1 ⟨d, c1, k1, cu1, t1, p1⟩ => by
    cases t1
    cases x with
    | true => exact ⟨g, env, c1, ig, rel.cu k1 cu1, p1⟩
    | false => exact ⟨g, env, c1, ig, rel.cu k1 cu1, p1⟩⟩
theorem eT_post {σ : L2.St} {H : Hp} {g : Gh} {env : En} {c : C} {k : Bool → C → R D} {Q : VK} (p : Post W g (Rp g) σ H ((eT fa env c).bind k) Q) :
    Post W g (Rp g) σ H (fa env c) fun x H1 => ∃ b c1, x = .bl b ∧ Keep g.Cu H H1 ∧ CupAt g c1 H1 ∧ Post W g (Rp g) σ H1 (k b c1) Q := by
  have p' : Post W g (Rp g) σ H ((fa env c).bind fun x c1 => (match x with | .bl b => (R.ok b c1 : R Bool) | _ => .bad).bind k) Q := by
    unfold eT at p
    cases q : fa env c <;> (rw [q] at p; exact p)
  refine (Post.bind (T := Rp g) p').imp fun x H1 ⟨d, c1, k1, cu1, t1, p1⟩ => ?_
  cases d with
  | bl b => exact ⟨b, c1, t1, k1, cu1, p1⟩
  | _ => exact p1.elim
theorem de_and1 (ha : PE X a (tD φ W m fa)) {op : BoolOp} : PE X (.BoolOp op [a] pos) (tD φ W m fa) := pe_one ha
theorem de_and (ha : PE X a (tD φ W m fa)) (hb : PE X (.BoolOp .And (b :: es) pos) (tD φ W m fb)) : PE X (.BoolOp .And (a :: b :: es) pos) (tD φ W m (eAnd fa fb)) :=
  PE.imp (pe_and ha hb) fun σ H Q ⟨g, env, c, ig, rel, p⟩ => ⟨g, env, c, ig, rel, (eT_post p).imp fun x H1 ⟨d, c1, e, k1, cu1, p1⟩ => ⟨d, e, by
    cases d with
    | true => exact ⟨g, env, c1, ig, rel.cu k1 cu1, p1⟩
    | false => exact p1.val cu1 rfl⟩⟩
theorem de_or (ha : PE X a (tD φ W m fa)) (hb : PE X (.BoolOp .Or (b :: es) pos) (tD φ W m fb)) : PE X (.BoolOp .Or (a :: b :: es) pos) (tD φ W m (eOr fa fb)) :=
  PE.imp (pe_or ha hb) fun σ H Q ⟨g, env, c, ig, rel, p⟩ => ⟨g, env, c, ig, rel, (eT_post p).imp fun x H1 ⟨d, c1, e, k1, cu1, p1⟩ => ⟨d, e, by
    cases d with
    | false => exact ⟨g, env, c1, ig, rel.cu k1 cu1, p1⟩
    | true => exact p1.val cu1 rfl⟩⟩
theorem de_not (ha : PE X a (tD φ W m fa)) : PE X (.UnaryOp .Not a pos) (tD φ W m (eNot fa)) :=
  PE.imp (pe_not ha) fun σ H Q ⟨g, env, c, ig, rel, p⟩ => ⟨g, env, c, ig, rel, (eT_post p).imp fun x H1 ⟨d, c1, e, k1, cu1, p1⟩ => ⟨d, e, p1.val cu1 rfl⟩⟩
/-! ### arguments, displays -/
theorem da_nil : PA X [] (tAs φ W m 0 aN) := PA.imp pa_nil fun σ H Q ⟨g, env, c, ig, rel, p⟩ => p.val rel.cup ⟨rfl, rfl⟩
theorem da_cons {k : Nat} (ha : PE X e (tD φ W m f)) (hr : PA X es (tAs φ W m k as)) (hs : starEach (e :: es) X.env = (false, eval e X.env) :: starEach es X.env := by rfl) : PA X (e :: es) (tAs φ W m (k + 1) (aC f as)) :=
  PA.imp (pa_cons ha hr hs) fun σ H Q ⟨g, env, c, ig, rel, p⟩ => by
    refine ⟨g, env, c, ig, rel, (Post.bind (T := Rp g) p).imp fun x H1 ⟨d, c1, k1, cu1, t1, p1⟩ => ?_⟩
    have rel1 := rel.cu k1 cu1
    refine ⟨g, env, c1, ig, rel1, (Post.bind (T := RpN k g) p1).imp fun xs H2 ⟨ds, c2, k2, cu2, t2, p2⟩ => ?_⟩
    exact p2.val cu2 ⟨⟨x, xs, rfl, t1.keep k2 cu1.cu, t2.1⟩, by rw [List.length_cons, t2.2]⟩
theorem de_tup {x1} {k : Nat} (h : PA X es (tAs φ W m k as)) : PE X (.Tuple es x1 pos) (tD φ W m (eTup as)) :=
  PE.imp (pe_tupN h) fun σ H Q ⟨g, env, c, ig, rel, p⟩ => by
    refine ⟨g, env, c, ig, rel, (Post.bind (T := RpN k g) p).imp fun xs H1 ⟨ds, c1, k1, cu1, t1, p1⟩ => ?_⟩
    cases hr : room ds.length with
    | false => rw [hr] at p1; exact p1.elim
    | true =>
      rw [hr] at p1
      refine ⟨by rw [t1.1.length]; exact room_of hr, fun q o hq ho => p1.new cu1 hq ⟨q, xs, rfl, .new ho, t1.1.keep (.new (F := fun _ => False) hq) fun _ z => z.elim⟩⟩
theorem fresh_out {g : Gh} {m : List Nat} {env : En} {c : C} {σ : L2.St} {H : Hp} (r : Rel g m env c σ H) {p : Addr} (h : H p = none) : ¬ g.O p := fun z => r.trk p z h
def Gh.with (g : Gh) (p : Addr) : Gh := { g with F := fun a => g.F a ∨ a = p }
theorem Gh.with_O {g : Gh} {p : Addr} {H : Hp} (h : H p = none) : ∀ a, (g.with p).O a → g.O a ∨ H a = none := fun a z => z.elim (fun y => .inl (.inl y)) fun y => y.elim (fun x => .inl (.inr x)) fun x => .inr (x ▸ h)
theorem Gh.of_with {g : Gh} {p : Addr} : ∀ a, g.O a → (g.with p).O a := fun a z => z.elim .inl fun y => .inr (.inl y)
/-- a new list -/
def FrF (g : Gh) (H H' : Hp) (d : D) (v : V) : Prop := ∃ ds a vs, d = .lst ds ∧ v = .ref a ∧ H a = none ∧ H' a = some (.lst vs) ∧ RpL (g.with a) H' ds vs
def tF (φ : Fx) (W : WX) (m : List Nat) (f : Ex) : TE := fun σ H Q => ∃ g env c, g.is φ ∧ Rel g m env c σ H ∧ Post W g (FrF g H) σ H (f env c) Q
theorem FrF.rp {g : Gh} {H H' : Hp} {d : D} {v : V} (t : ∀ a, g.O a → H a ≠ none) (h : FrF g H H' d v) : Rp g H' d v := by
  obtain ⟨ds, a, vs, rfl, rfl, n, e, r⟩ := h
  exact ⟨a, vs, rfl, fun z => t a z n, e, RpL.move (g := g.with a) (g' := g) (F := fun _ => False) .refl rfl rfl rfl (fun _ z => z.elim) (fun a z => .inl (Gh.of_with a z)) r⟩
theorem fr (h : PE X e (tF φ W m f)) : PE X e (tD φ W m f) := PE.imp h fun σ H Q ⟨g, env, c, ig, r, p⟩ => ⟨g, env, c, ig, r, by
  cases q : f env c with
  | ok d c1 => rw [q] at p; exact fun v H' k cu t => p v H' k cu (t.rp r.trk)
  | exc e c1 => rw [q] at p; exact p
  | bad => rw [q] at p; exact p⟩
theorem Keep.fresh {F : Addr → Prop} {H H' : Hp} (k : Keep F H H') {p : Addr} (h : H' p = none) : H p = none := Classical.byContradiction fun z => k.t p z h
theorem CupAt.there {g : Gh} {c : C} {H : Hp} (h : CupAt g c H) : ∀ a, g.Cu a → H a ≠ none := fun a e => by
  obtain ⟨_, _, _, _, q⟩ := h.at e
  rw [q]; simp
theorem cu_fresh {g : Gh} {c : C} {H H' : Hp} (k : Keep g.Cu H H') (cu : CupAt g c H') {p : Addr} (h : H' p = none) : H p = none := k.fresh h
theorem df_lst {k : Nat} (h : PA X es (tAs φ W m k as)) : PE X (.List es pos) (tF φ W m (eLst as)) :=
  PE.imp (pe_lst h) fun σ H Q ⟨g, env, c, ig, rel, p⟩ => by
    refine ⟨g, env, c, ig, rel, (Post.bind (T := RpN k g) p).imp fun xs H1 ⟨ds, c1, k1, cu1, t1, p1⟩ => ?_⟩
    cases hr : room ds.length with
    | false => rw [hr] at p1; exact p1.elim
    | true =>
      rw [hr] at p1
      refine ⟨by rw [t1.1.length]; exact room_of hr, fun q hq => p1.new cu1 hq ⟨ds, q, xs, rfl, rfl, cu_fresh k1 cu1 hq, upd_same, RpL.move (g := g) (g' := g.with q) (.new (F := fun _ => False) hq) rfl rfl rfl (fun _ z => z.elim) (Gh.with_O hq) t1.1⟩⟩
/-! ### slices -/
theorem do_n : PO X none (tO φ W m oN) := ⟨fun pins s σ H Q I ⟨g, env, c, ig, rel, p⟩ => po_none.run pins s σ H Q I (p.val rel.cup rfl)⟩
theorem do_s (h : PE X e (tD φ W m f)) : PO X (some e) (tO φ W m (oS f)) := ⟨fun pins s σ H Q I ⟨g, env, c, ig, rel, p⟩ => (po_some h).run pins s σ H Q I ⟨g, env, c, ig, rel, (Post.bind (T := Rp g) p).imp fun x H1 ⟨d, c1, k1, cu1, t1, p1⟩ => by
  cases d with
  | int i => exact ⟨i, t1, p1.val cu1 rfl⟩
  | _ => exact p1.elim⟩⟩
def OpSl (φ : Fx) (r : V → Option Int → Option Int → Hp → VK → Prop) (f : D → Option Int → Option Int → Option D) : Prop :=
  ∀ (W : WX) (g : Gh) (σ : L2.St) (H : Hp) (c : C) (x : V) (d : D) (lo hi : Option Int) (Q : VK), g.is φ → CupAt g c H → (∀ a, g.O a → H a ≠ none) → RpS g H d x → Post W g (Rp g) σ H (ofO (f d lo hi) c) Q → r x lo hi H Q
theorem de_sl {lo hi : Option Expr} {fl fh : En → C → R (Option Int)} {p2} {r : V → Option Int → Option Int → Hp → VK → Prop} {k : D → Option Int → Option Int → Option D} (hr : SlR X r) (o : OpSl φ r k)
    (ha : PE X a (tS φ W m fa)) (hl : PO X lo (tO φ W m fl)) (hh : PO X hi (tO φ W m fh)) : PE X (.Subscript a (.Slice lo hi none p2) pos) (tD φ W m (eSl k fa fl fh)) :=
  PE.imp (pe_slice hr ha hl hh) fun σ H Q ⟨g, env, c, ig, rel, p⟩ => by
    refine ⟨g, env, c, ig, rel, (Post.bind (T := RpS g) p).imp fun x H1 ⟨d, c1, k1, cu1, t1, p1⟩ => ?_⟩
    have rel1 := rel.cu k1 cu1
    refine ⟨g, env, c1, ig, rel1, (Post.bind (T := RpE g) p1).imp fun l H2 ⟨l', c2, k2, cu2, t2, p2⟩ => ?_⟩
    have rel2 := rel1.cu k2 cu2
    refine ⟨g, env, c2, ig, rel2, (Post.bind (T := RpE g) p2).imp fun h H3 ⟨h', c3, k3, cu3, t3, p3⟩ => ?_⟩
    cases t2; cases t3
    exact o W g σ H3 c3 x d _ _ Q ig cu3 (rel2.cu k3 cu3).trk ((t1.keep cu1 k2).keep cu2 k3) p3
/-! ### built-in functions and types of one and two arguments -/
def Op1 (φ : Fx) (r : V → Hp → VK → Prop) (f : D → Option D) : Prop :=
  ∀ (W : WX) (g : Gh) (σ : L2.St) (H : Hp) (c : C) (x : V) (d : D) (Q : VK), g.is φ → CupAt g c H → (∀ a, g.O a → H a ≠ none) → RpS g H d x → Post W g (Rp g) σ H (ofO (f d) c) Q → r x H Q
theorem op1_run {r : V → Hp → VK → Prop} {k : D → Option D} (o : Op1 φ r k) {σ : L2.St} {H : Hp} {Q : VK} (h : tD φ W m (e1 k fa) σ H Q) : (tS φ W m fa) σ H fun x H1 => r x H1 Q := by
  obtain ⟨g, env, c, ig, rel, p⟩ := h
  refine ⟨g, env, c, ig, rel, (Post.bind (T := RpS g) p).imp fun x H1 ⟨d, c1, k1, cu1, t1, p1⟩ => ?_⟩
  exact o W g σ H1 c1 x d Q ig cu1 (rel.cu k1 cu1).trk t1 p1
theorem de_un {op : UnaryOp} {r : V → Hp → VK → Prop} {k : D → Option D} (ho : UnR X (unaryOp op) r) (o : Op1 φ r k) (ha : PE X a (tS φ W m fa)) : PE X (.UnaryOp op a pos) (tD φ W m (e1 k fa)) :=
  PE.imp (pe_un ho ha) fun _ _ _ h => op1_run o h
theorem de_b1 {x : Str} {p : Pos} {id : String} {r : List V → Hp → VK → Prop} {k : D → Option D} (hc : CallR X (.builtin id) r) (o : Op1 φ (fun x => r [x]) k) (hm : X.mg x = none) (hv : bootBuiltins x = some (.builtin id)) (ha : PE X a (tS φ W m fa)) (hg : Gl X x := by rfl)
    (hn : x ≠ "__name__" := by decide) (hdb : (x == ("__debug__" : Str)) = false := by decide) (hs : starEach (a :: []) X.env = (false, eval a X.env) :: starEach [] X.env := by rfl) : PE X (.Call (.Name x p) [a] [] pos) (tD φ W m (e1 k fa)) :=
  PE.imp (pe_callB hc hg hm hv (pa_cons ha pa_nil hs) hn hdb hs rfl) fun _ _ _ h => op1_run o h
theorem de_t1 {x : Str} {p : Pos} {T : String} {r : List V → Hp → VK → Prop} {k : D → Option D} (hc : CallR X (.type T) r) (o : Op1 φ (fun x => r [x]) k) (hm : X.mg x = none) (hv : bootBuiltins x = some (.type T)) (ha : PE X a (tS φ W m fa)) (hg : Gl X x := by rfl)
    (hn : x ≠ "__name__" := by decide) (hdb : (x == ("__debug__" : Str)) = false := by decide) (hs : starEach (a :: []) X.env = (false, eval a X.env) :: starEach [] X.env := by rfl) : PE X (.Call (.Name x p) [a] [] pos) (tD φ W m (e1 k fa)) :=
  PE.imp (pe_callTy hc hg hm hv (pa_cons ha pa_nil hs) hn hdb hs rfl) fun _ _ _ h => op1_run o h
theorem de_b2 {x : Str} {p : Pos} {id : String} {r : List V → Hp → VK → Prop} {k : D → D → Option D} (hc : CallR X (.builtin id) r) (o : Op2 φ (fun x y => r [x, y]) k) (hm : X.mg x = none) (hv : bootBuiltins x = some (.builtin id)) (ha : PE X a (tS φ W m fa)) (hb : PE X b (tS φ W m fb)) (hg : Gl X x := by rfl)
    (hn : x ≠ "__name__" := by decide) (hdb : (x == ("__debug__" : Str)) = false := by decide) (hs : starEach (a :: [b]) X.env = (false, eval a X.env) :: starEach [b] X.env := by rfl) (hs2 : starEach (b :: []) X.env = (false, eval b X.env) :: starEach [] X.env := by rfl) (hpl : (backTo pos (starEach [b] X.env)).any (·.1) = false := by rfl) :
    PE X (.Call (.Name x p) [a, b] [] pos) (tD φ W m (e2 k fa fb)) :=
  PE.imp (pe_callB hc hg hm hv (pa_cons ha (pa_cons hb pa_nil hs2) hs) hn hdb hs hpl) fun _ _ _ h => op2_run o h
end
end DL

namespace DL
open PySem PySem.Spec PyProof.Rows L2

/-! ### a def's promise -/
def Gh.in (g : Gh) : Gh := { g with O0 := g.O, F := fun _ => False }
theorem Rp.narrow {g g' : Gh} {H : Hp} {d : D} {v : V} (h : Rp g H d v) (hK : g'.K = g.K) (hf : g'.fa = g.fa) (hc : g'.ca = g.ca) (hO : ∀ a, g'.O a → g.O a ∨ H a = none) : Rp g' H d v :=
  h.move (F := fun _ => False) .refl hK hf hc (fun _ z => z.elim) hO
theorem RpL.narrow {g g' : Gh} {H : Hp} {d : List D} {v : List V} (h : RpL g H d v) (hK : g'.K = g.K) (hf : g'.fa = g.fa) (hc : g'.ca = g.ca) (hO : ∀ a, g'.O a → g.O a ∨ H a = none) : RpL g' H d v :=
  h.move (F := fun _ => False) .refl hK hf hc (fun _ z => z.elim) hO
abbrev WofE (E : XK) : WX := fun cls d _ H => E cls d H
def spD (φ : Fx) (n : Nat) (fn : List D → C → R D) : Sp := fun vs H Q E => vs.length = n ∧ ∃ g ds c, g.is φ ∧ (∀ a, g.O a → H a ≠ none) ∧ CupAt g c H ∧ RpL g H ds vs ∧ Post (WofE E) g (Rp g) [] H (fn ds c) Q

section
variable {X : Cx} {φ : Fx} {W : WX} {m : List Nat} {a b e : Expr} {es : List Expr} {fa fb f : Ex} {as : Exs} {pos p : Pos} {k n : Nat} {x : Str} {fn : List D → C → R D} {fd : FuncData} {ps : List Str} {ff : Addr}
theorem de_call (F : FnOk X.prog X.w X.K X.mg X.base (L2.CX X.prog X.w) k ff fd ps (spD φ n fn)) (hr : Room k X.A) (hm : X.mg x = some (.ref ff)) (hk : PySem.W.keepIn X.K (.ref ff) = true) (hb : Binds X.K fd ps []) (tk : Takes X W)
    (ha : PA X (e :: es) (tAs φ W m n as)) (hg : Gl X x := by rfl) (hdb : (x == ("__debug__" : Str)) = false := by decide) (he : starEach (e :: es) X.env = (false, eval e X.env) :: starEach es X.env := by rfl) (hpl : (backTo pos (starEach es X.env)).any (·.1) = false := by rfl) :
    PE X (.Call (.Name x p) (e :: es) [] pos) (tD φ W m (eCall fn as)) :=
  PE.imp (pe_callS F hr hg hm hk hb (passAt tk) ha hdb he hpl) fun σ H Q ⟨g, env, c, ig, rel, p⟩ => by
    refine ⟨g, env, c, ig, rel, (Post.bind (T := RpN n g) p).imp fun xs H1 ⟨ds, c1, k1, cu1, t1, p1⟩ => ?_⟩
    have rel1 := rel.cu k1 cu1
    refine ⟨by rw [t1.1.length]; exact t1.2, g, ds, c1, ig, rel1.trk, cu1, t1.1, ?_⟩
    cases q : fn ds c1 with
    | ok d c2 => rw [q] at p1; exact p1
    | exc e c2 => rw [q] at p1; exact p1
    | bad => rw [q] at p1; exact p1
/-- without arguments; nothing is raised -/
def eCall0 (fn : List D → C → R D) : Ex := fun _ c => match fn [] c with
  | .ok d c' => .ok d c'
  | _ => .bad
theorem de_call0 (F : FnOk X.prog X.w X.K X.mg X.base (L2.CX X.prog X.w) k ff fd ps (spD φ 0 fn)) (hr : Room k X.A) (hm : X.mg x = some (.ref ff)) (hk : PySem.W.keepIn X.K (.ref ff) = true) (hb : Binds X.K fd ps [])
    (hg : Gl X x := by rfl) (hdb : (x == ("__debug__" : Str)) = false := by decide) : PE X (.Call (.Name x p) [] [] pos) (tD φ W m (eCall0 fn)) :=
  PE.imp (pe_call0 (dvs := []) F hr hg hm hk hb .nil passL hdb) fun σ H Q ⟨g, env, c, ig, rel, p⟩ => by
    refine ⟨rfl, g, [], c, ig, rel.trk, rel.cup, rfl, ?_⟩
    unfold eCall0 at p
    cases q : fn [] c with
    | ok d c2 => rw [q] at p; exact p
    | exc e c2 => rw [q] at p; exact p.elim
    | bad => rw [q] at p; exact p

/-! ### a list of the frame's own lent to a call that hands back no list -/
mutual
def plain : D → Bool
  | .lst _ => false
  | .tup ds => plainL ds
  | .raw _ => false
  | .dct _ _ => false
  | _ => true
def plainL : List D → Bool
  | [] => true
  | d :: ds => plain d && plainL ds
end
mutual
theorem Rp.plain {g g' : Gh} {H : Hp} (hK : g'.K = g.K) (hf : g'.fa = g.fa) (hc : g'.ca = g.ca) : ∀ {d : D} {v : V}, plain d = true → Rp g H d v → Rp g' H d v
  | .non, _, _, h => h
  | .bl _, _, _, h => h
  | .int _, _, _, h => h
  | .str _, _, _, h => h
  | .tup ds, _, q, ⟨a, vs, e, s, r⟩ => ⟨a, vs, e, s, RpL.plain hK hf hc q r⟩
  | .raw _, _, q, _ => by cases q
  | .dct _ _, _, q, _ => by cases q
  | .lst _, _, q, _ => by cases q
  | .fn _, _, _, h => by simp only [Rp] at h ⊢; rw [hf]; exact h
  | .cup, _, _, h => by simp only [Rp] at h ⊢; rw [hc]; exact h
  | .scr _, _, _, ⟨a, e, h⟩ => ⟨a, e, hK ▸ h⟩
theorem RpL.plain {g g' : Gh} {H : Hp} (hK : g'.K = g.K) (hf : g'.fa = g.fa) (hc : g'.ca = g.ca) : ∀ {ds : List D} {vs : List V}, plainL ds = true → RpL g H ds vs → RpL g' H ds vs
  | [], _, _, h => h
  | d :: ds, _, q, ⟨w, ws, e, h, r⟩ => by
    have q' : DL.plain d = true ∧ plainL ds = true := by simpa [plainL] using q
    exact ⟨w, ws, e, Rp.plain hK hf hc q'.1 h, RpL.plain hK hf hc q'.2 r⟩
end
def RpSL (g : Gh) (H : Hp) : List D → List V → Prop
  | [], vs => vs = []
  | d :: ds, vs => ∃ w ws, vs = w :: ws ∧ RpS g H d w ∧ RpSL g H ds ws
def RpSN (k : Nat) (g : Gh) (H : Hp) (ds : List D) (vs : List V) : Prop := RpSL g H ds vs ∧ ds.length = k
abbrev tAl (φ : Fx) (W : WX) (m : List Nat) (k : Nat) (f : Exs) : TA := tG (RpSN k) φ W m f
theorem RpSL.length {g : Gh} {H : Hp} : ∀ {ds : List D} {vs : List V}, RpSL g H ds vs → vs.length = ds.length
  | [], _, h => by simp only [RpSL] at h; subst h; rfl
  | _ :: _, _, ⟨w, ws, e, _, r⟩ => by rw [e, List.length_cons, List.length_cons, r.length]
theorem RpSL.keep {g : Gh} {H H' : Hp} {c : C} (cu : CupAt g c H) (k : Keep g.Cu H H') : ∀ {ds : List D} {vs : List V}, RpSL g H ds vs → RpSL g H' ds vs
  | [], _, h => h
  | _ :: _, _, ⟨w, ws, e, h, r⟩ => ⟨w, ws, e, h.keep cu k, r.keep cu k⟩
theorem dl_nil : PA X [] (tAl φ W m 0 aN) := PA.imp pa_nil fun σ H Q ⟨g, env, c, ig, rel, p⟩ => p.val rel.cup ⟨rfl, rfl⟩
theorem dl_cons {k : Nat} (ha : PE X e (tS φ W m f)) (hr : PA X es (tAl φ W m k as)) (hs : starEach (e :: es) X.env = (false, eval e X.env) :: starEach es X.env := by rfl) : PA X (e :: es) (tAl φ W m (k + 1) (aC f as)) :=
  PA.imp (pa_cons ha hr hs) fun σ H Q ⟨g, env, c, ig, rel, p⟩ => by
    refine ⟨g, env, c, ig, rel, (Post.bind (T := RpS g) p).imp fun x H1 ⟨d, c1, k1, cu1, t1, p1⟩ => ?_⟩
    have rel1 := rel.cu k1 cu1
    refine ⟨g, env, c1, ig, rel1, (Post.bind (T := RpSN k g) p1).imp fun xs H2 ⟨ds, c2, k2, cu2, t2, p2⟩ => ?_⟩
    exact p2.val cu2 ⟨⟨x, xs, rfl, t1.keep cu1 k2, t2.1⟩, by rw [List.length_cons, t2.2]⟩
/-- what the callee may not touch: the cup alone -/
def Gh.lend (g : Gh) : Gh := { g with O0 := g.Cu, F := fun _ => False }
theorem RpS.lend {g : Gh} {c : C} {H : Hp} (cu : CupAt g c H) : ∀ {d : D} {v : V}, RpS g H d v → Rp g.lend H d v
  | .lst ds, _, ⟨a, vs, e, n, s, r⟩ => ⟨a, vs, e, fun z => z.elim n id, s, r.narrow rfl rfl rfl fun a z => .inl (z.elim (cu.cu a) False.elim)⟩
  | .non, _, h => h
  | .bl _, _, h => h
  | .int _, _, h => h
  | .str _, _, h => h
  | .tup _, _, h => Rp.narrow (d := .tup _) h rfl rfl rfl fun a z => .inl (z.elim (cu.cu a) False.elim)
  | .raw _, _, h => Rp.narrow (d := .raw _) h rfl rfl rfl fun a z => .inl (z.elim (cu.cu a) False.elim)
  | .dct _ _, _, h => Rp.narrow (d := .dct _ _) h rfl rfl rfl fun a z => .inl (z.elim (cu.cu a) False.elim)
  | .fn _, _, h => h
  | .cup, _, h => h
  | .scr _, _, h => h
theorem RpSL.lend {g : Gh} {c : C} {H : Hp} (cu : CupAt g c H) : ∀ {ds : List D} {vs : List V}, RpSL g H ds vs → RpL g.lend H ds vs
  | [], _, h => h
  | _ :: _, _, ⟨w, ws, e, h, r⟩ => ⟨w, ws, e, h.lend cu, r.lend cu⟩
theorem CupAt.lend {g : Gh} {c : C} {H : Hp} (h : CupAt g c H) : CupAt g.lend c H := ⟨h.1, h.2.imp id fun ⟨a, x, y, h1, h2, h3, h4⟩ => ⟨a, x, y, h1, h2, h1, h4⟩⟩
theorem CupAt.unlend {g : Gh} {c : C} {H : Hp} (o : ∀ a, g.ca = some a → g.O0 a) (h : CupAt g.lend c H) : CupAt g c H := ⟨h.1, h.2.imp id fun ⟨a, x, y, h1, h2, h3, h4⟩ => ⟨a, x, y, h1, h2, o a h1, h4⟩⟩
def eCallL (fn : List D → C → R D) (as : Exs) : Ex := fun env c => (as env c).bind fun ds c1 => (fn ds c1).bind fun d c2 => match plain d with
  | true => .ok d c2
  | false => .bad
theorem de_callL (F : FnOk X.prog X.w X.K X.mg X.base (L2.CX X.prog X.w) k ff fd ps (spD φ n fn)) (hr : Room k X.A) (hm : X.mg x = some (.ref ff)) (hk : PySem.W.keepIn X.K (.ref ff) = true) (hb : Binds X.K fd ps []) (tk : Takes X W)
    (ha : PA X (e :: es) (tAl φ W m n as)) (hg : Gl X x := by rfl) (hdb : (x == ("__debug__" : Str)) = false := by decide) (he : starEach (e :: es) X.env = (false, eval e X.env) :: starEach es X.env := by rfl) (hpl : (backTo pos (starEach es X.env)).any (·.1) = false := by rfl) :
    PE X (.Call (.Name x p) (e :: es) [] pos) (tD φ W m (eCallL fn as)) :=
  PE.imp (pe_callS F hr hg hm hk hb (passAt tk) ha hdb he hpl) fun σ H Q ⟨g, env, c, ig, rel, p⟩ => by
    refine ⟨g, env, c, ig, rel, (Post.bind (T := RpSN n g) p).imp fun xs H1 ⟨ds, c1, k1, cu1, t1, p1⟩ => ?_⟩
    have rel1 := rel.cu k1 cu1
    have o : ∀ a, g.ca = some a → g.O0 a := fun a e => cu1.O0 e
    refine ⟨by rw [t1.1.length]; exact t1.2, g.lend, ds, c1, ig, fun a z => rel1.trk a (.inl (z.elim (fun y => o a y) False.elim)), cu1.lend, t1.1.lend cu1, ?_⟩
    cases q : fn ds c1 with
    | ok d c2 =>
      rw [q] at p1
      intro v H' k' cu' t'
      have p2 : Post W g (Rp g) σ H1 (match DL.plain d with | true => (R.ok d c2 : R D) | false => .bad) Q := p1
      cases hp : DL.plain d with
      | false => rw [hp] at p2; exact p2.elim
      | true =>
        rw [hp] at p2
        exact p2 v H' k' (cu'.unlend o) (Rp.plain (g := g.lend) (g' := g) rfl rfl rfl hp t')
    | exc e c2 => rw [q] at p1; exact fun H' k' cu' => p1 H' k' (cu'.unlend o)
    | bad => rw [q] at p1; exact p1
end
end DL

namespace DL
open PySem PySem.Spec PyProof.Rows L2

/-! ### what is walked -/
def DW (g : Gh) (F : Addr → Prop) (J : It) (ds : List D) (H0 : Hp) : Prop :=
  L2.Walk J ds.length (fun H => Keep F H0 H) fun i H x H' => Sam H H' ∧ ∃ d, ds[i]? = some d ∧ ∀ g' : Gh, g'.K = g.K → g'.fa = g.fa → g'.ca = g.ca → (∀ a, g'.O a → g.O a ∨ H0 a = none) → Rp g' H' d x
theorem DW.mono {g : Gh} {F F' : Addr → Prop} {J : It} {ds : List D} {H0 : Hp} (h : DW g F J ds H0) (f : ∀ a, F' a → F a) : DW g F' J ds H0 :=
  L2.Walk.mono h (fun H k => k.mono f) fun _ _ _ _ _ _ y => y
abbrev tI (φ : Fx) (W : WX) (m : List Nat) (f : Exs) : TI := tG (fun g H ds J => DW g g.Ch J ds H) φ W m f
abbrev tIc (φ : Fx) (W : WX) (m : List Nat) (f : Exs) : TI := tG (fun g H ds J => DW g g.Cu J ds H) φ W m f
theorem PI.imp {X : Cx} {tg e : Expr} {t t' : TI} (h : PI X tg e t) (f : ∀ σ H R, t' σ H R → t σ H R) : PI X tg e t' := ⟨fun pins s σ H R I q => h.run pins s σ H R I (f σ H R q)⟩
/-- the items of a tuple or of a list -/
def dItems : D → Option (List D)
  | .tup ds => some ds
  | .lst ds => some ds
  | _ => none
def iSeq (a : Ex) : Exs := fun env c => (a env c).bind fun d c1 => ofO (dItems d) c1
def dRange1 : D → Option (List D)
  | .int n => match decide (-(2 ^ 62) ≤ n ∧ n < 2 ^ 62) with
    | true => some ((List.range n.toNat).map fun (i : Nat) => D.int (i : Int))
    | false => none
  | _ => none
def dRange2 : D → D → Option (List D)
  | .int a, .int b => match decide (-(2 ^ 62) ≤ a ∧ a < 2 ^ 62 ∧ -(2 ^ 62) ≤ b ∧ b < 2 ^ 62) with
    | true => some ((List.range (b - a).toNat).map fun (i : Nat) => D.int (a + (i : Int)))
    | false => none
  | _, _ => none
def iRange1 (a : Ex) : Exs := fun env c => (a env c).bind fun d c1 => ofO (dRange1 d) c1
def iRange2 (a b : Ex) : Exs := fun env c => (a env c).bind fun x c1 => (b env c1).bind fun y c2 => ofO (dRange2 x y) c2
def dZip : List D → List D → List D
  | a :: as, b :: bs => .raw [a, b] :: dZip as bs
  | _, _ => []
/-- both lists, or both tuples -/
def dZip2 : D → D → Option (List D)
  | .tup as, .tup bs => some (dZip as bs)
  | .lst as, .lst bs => some (dZip as bs)
  | _, _ => none
def iZip (a b : Ex) : Exs := fun env c => (a env c).bind fun x c1 => (b env c1).bind fun y c2 => ofO (dZip2 x y) c2
def dEnum : Nat → List D → List D
  | _, [] => []
  | n, d :: ds => .raw [.int (n : Int), d] :: dEnum (n + 1) ds
def dEnumL : D → Option (List D)
  | .lst ds => some (dEnum 0 ds)
  | _ => none
def iEnumL (a : Ex) : Exs := fun env c => (a env c).bind fun x c1 => ofO (dEnumL x) c1
theorem dZip_length : ∀ as bs : List D, (dZip as bs).length = min as.length bs.length
  | [], bs => by cases bs <;> simp [dZip]
  | a :: as, [] => by simp [dZip]
  | a :: as, b :: bs => by simp [dZip, dZip_length as bs, Nat.succ_min_succ]
theorem dZip_get : ∀ (as bs : List D) (i : Nat) (a b : D), as[i]? = some a → bs[i]? = some b → (dZip as bs)[i]? = some (.raw [a, b])
  | [], _, _, _, _, h, _ => by simp at h
  | _ :: _, [], _, _, _, _, h => by simp at h
  | a :: as, b :: bs, 0, _, _, h, h' => by simp at h h'; subst h; subst h'; rfl
  | a :: as, b :: bs, i + 1, _, _, h, h' => by simpa [dZip] using dZip_get as bs i _ _ (by simpa using h) (by simpa using h')
theorem dEnum_length : ∀ (n : Nat) (ds : List D), (dEnum n ds).length = ds.length
  | _, [] => rfl
  | n, _ :: ds => by simp [dEnum, dEnum_length (n + 1) ds]
theorem dEnum_get : ∀ (ds : List D) (n i : Nat) (d : D), ds[i]? = some d → (dEnum n ds)[i]? = some (.raw [.int ((n + i : Nat) : Int), d])
  | [], _, _, _, h => by simp at h
  | d :: ds, n, 0, _, h => by simp at h; subst h; rfl
  | d :: ds, n, i + 1, _, h => by
    have := dEnum_get ds (n + 1) i _ (by simpa using h)
    rw [show n + 1 + i = n + (i + 1) by omega] at this
    simpa [dEnum] using this

section
variable {X : Cx} {φ : Fx} {W : WX} {m : List Nat} {a b e tg : Expr} {es : List Expr} {fa fb f : Ex} {is : Exs} {pos p : Pos}
theorem ic (h : PI X tg e (tI φ W m is)) : PI X tg e (tIc φ W m is) := PI.imp h fun σ H R ⟨g, env, c, ig, rel, p⟩ => ⟨g, env, c, ig, rel, by
  cases q : is env c with
  | ok d c1 => rw [q] at p; exact fun J H' k cu t => p J H' k cu (DW.mono t fun a z => .inr z)
  | exc e c1 => rw [q] at p; exact p
  | bad => rw [q] at p; exact p⟩
/-- the walk of what is a list or a tuple -/
def iSeqT (K : PySem.W.Frag) (tl : TE) : TI := fun σ H R => tl σ H fun x H1 => ∃ a xs, x = .ref a ∧ ((SqL K H1 a xs ∧ R (Itl K a) H1) ∨ (SqT K H1 a xs ∧ R (Itt K a) H1))
theorem pi_seq {l : Expr} {tl : TE} (hl : PE X l tl) : PI X tg l (iSeqT X.K tl) := by
  refine ⟨fun pins s σ H R I h => thn (hl.run pins s σ H _ I h) fun v s1 ⟨x, H1, I1, r1, a, xs, e, q⟩ => ?_⟩
  subst e
  cases r1
  have fp : ∀ b ∈ [s1.heap.objs.size], FpOk X pins H1 b := fun b hb => by
    rw [List.mem_singleton] at hb
    subst hb
    exact I1.fpOk (Nat.le_refl _) (I1.hok.fresh (Nat.le_refl _))
  rcases q with ⟨hq, q⟩ | ⟨hq, q⟩
  · obtain ⟨its, _, ls, _⟩ := I1.list hq
    exact wpAny_pyIter_list ls.isList ⟨_, _, _, _, H1, rfl, I1.kept (t' := s1.toks) fun _ _ y => Heap.get?_push_of_some _ y, turn_list a _, ⟨_, Heap.get?_push_size _ rfl, rfl, rfl⟩, fp, q⟩
  · obtain ⟨its, _, ls, _⟩ := I1.tuple hq
    exact wpAny_pyIter_tuple (show s1.heap.IsTuple a its.toArray from ls) ⟨_, _, _, _, H1, rfl, I1.kept (t' := s1.toks) fun _ _ y => Heap.get?_push_of_some _ y, turn_tuple a _, ⟨_, Heap.get?_push_size _ rfl, rfl, rfl⟩, fp, q⟩
theorem dw_tup {g : Gh} {H : Hp} {F : Addr → Prop} {a : Addr} {ds : List D} {vs : List V} (hF : ∀ a, F a → g.O a) (hs : SqT g.K H a vs) (hr : RpL g H ds vs) : DW g F (Itt g.K a) ds H := by
  unfold DW
  rw [← hr.length]
  exact L2.Walk.mono walk_tup (fun H k => k.rdT hs) fun i H x H' hi k y => by
    obtain ⟨e, y⟩ := y
    subst e
    obtain ⟨d, h1, h2⟩ := hr.get' y
    exact ⟨.refl, d, h1, fun g' e1 e2 e3 e4 => h2.move k e1 e2 e3 hF e4⟩
theorem dw_lst {g : Gh} {H : Hp} {F : Addr → Prop} {a : Addr} {ds : List D} {vs : List V} (hF : ∀ a, F a → g.O a) (n : ¬ F a) (hs : H a = some (.lst vs)) (hr : RpL g H ds vs) : DW g F (Itl g.K a) ds H := by
  unfold DW
  rw [← hr.length]
  exact L2.Walk.mono walk_list (fun H k => .of (k.rdL n hs)) fun i H x H' hi k y => by
    obtain ⟨e, y⟩ := y
    subst e
    obtain ⟨d, h1, h2⟩ := hr.get' y
    exact ⟨.refl, d, h1, fun g' e1 e2 e3 e4 => h2.move k e1 e2 e3 hF e4⟩
theorem di_seq (ha : PE X a (tD φ W m fa)) (hK : X.K = φ.K := by rfl) : PI X tg a (tI φ W m (iSeq fa)) :=
  PI.imp (pi_seq ha) fun σ H R ⟨g, env, c, ig, rel, p⟩ => ⟨g, env, c, ig, rel, (Post.bind (T := Rp g) p).imp fun x H1 ⟨d, c1, k1, cu1, t1, p1⟩ => by
    have rel1 := rel.cu k1 cu1
    have eK : X.K = g.K := hK.trans ig.1.symm
    cases d with
    | tup ds =>
      obtain ⟨l, vs, rfl, hs, hr⟩ := t1
      exact ⟨l, vs, rfl, .inr ⟨hs.t, by rw [eK]; exact p1.val cu1 (dw_tup rel1.chO hs.t hr)⟩⟩
    | lst ds =>
      obtain ⟨l, vs, rfl, n, hs, hr⟩ := t1
      exact ⟨l, vs, rfl, .inl ⟨.of hs, by rw [eK]; exact p1.val cu1 (dw_lst rel1.chO (fun z => n (rel1.chO _ z)) hs hr)⟩⟩
    | _ => exact p1.elim⟩
theorem di_seqS (ha : PE X a (tS φ W m fa)) (hK : X.K = φ.K := by rfl) : PI X tg a (tIc φ W m (iSeq fa)) :=
  PI.imp (pi_seq ha) fun σ H R ⟨g, env, c, ig, rel, p⟩ => ⟨g, env, c, ig, rel, (Post.bind (T := RpS g) p).imp fun x H1 ⟨d, c1, k1, cu1, t1, p1⟩ => by
    have rel1 := rel.cu k1 cu1
    have eK : X.K = g.K := hK.trans ig.1.symm
    cases d with
    | tup ds =>
      obtain ⟨l, vs, rfl, hs, hr⟩ := t1
      exact ⟨l, vs, rfl, .inr ⟨hs.t, by rw [eK]; exact p1.val cu1 (dw_tup cu1.cu hs.t hr)⟩⟩
    | lst ds =>
      obtain ⟨l, vs, rfl, n, hs, hr⟩ := t1
      exact ⟨l, vs, rfl, .inl ⟨.of hs, by rw [eK]; exact p1.val cu1 (dw_lst cu1.cu n hs hr)⟩⟩
    | _ => exact p1.elim⟩
theorem dw_rng {g : Gh} {H : Hp} {F : Addr → Prop} {lo : Int} {n : Nat} {ds : List D} (e : ds = (List.range n).map fun (i : Nat) => D.int (lo + (i : Int))) : DW g F (Itr lo n) ds H := by
  subst e
  unfold DW
  rw [List.length_map, List.length_range]
  exact L2.Walk.mono walk_range (fun H q => trivial) fun i H x H' hi q y => by
    obtain ⟨e1, e2⟩ := y
    subst e1; subst e2
    exact ⟨.refl, .int (lo + i), by simp [hi], fun _ _ _ _ _ => rfl⟩
theorem di_range1 (ha : PE X a (tD φ W m fa)) (hm : X.mg "range" = none) (hg : Gl X "range" := by rfl) (hs : starEach [a] X.env = [(false, eval a X.env)] := by rfl) (hs' : starEach (a :: []) X.env = (false, eval a X.env) :: starEach [] X.env := by rfl) :
    PI X tg (.Call (.Name "range" p) [a] [] pos) (tI φ W m (iRange1 fa)) :=
  PI.imp (pi_range1 hg hm (pa_cons ha pa_nil hs') hs) fun σ H R ⟨g, env, c, ig, rel, p⟩ => ⟨g, env, c, ig, rel, (Post.bind (T := Rp g) p).imp fun x H1 ⟨d, c1, k1, cu1, t1, p1⟩ => by
    cases d with
    | int n =>
      have p2 : Post W g (fun H' ds J => DW g g.Ch J ds H') σ H1 (ofO (match decide (-(2 ^ 62) ≤ n ∧ n < 2 ^ 62) with | true => some ((List.range n.toNat).map fun (i : Nat) => D.int (i : Int)) | false => none) c1) R := p1
      by_cases hn : -(2 ^ 62) ≤ n ∧ n < 2 ^ 62
      · rw [decide_eq_true hn] at p2
        refine ⟨n, by rw [show x = V.int n from t1], hn.1, hn.2, p2.val cu1 (dw_rng ?_)⟩
        simp
      · rw [decide_eq_false hn] at p2; exact p2.elim
    | _ => exact p1.elim⟩
theorem di_range2 (ha : PE X a (tD φ W m fa)) (hb : PE X b (tD φ W m fb)) (hm : X.mg "range" = none) (hg : Gl X "range" := by rfl) (hs : starEach [a, b] X.env = [(false, eval a X.env), (false, eval b X.env)] := by rfl) (hs2 : starEach [b] X.env = [(false, eval b X.env)] := by rfl)
    (hs' : starEach (a :: [b]) X.env = (false, eval a X.env) :: starEach [b] X.env := by rfl) (hs3 : starEach (b :: []) X.env = (false, eval b X.env) :: starEach [] X.env := by rfl) :
    PI X tg (.Call (.Name "range" p) [a, b] [] pos) (tI φ W m (iRange2 fa fb)) :=
  PI.imp (pi_range2 hg hm (pa_cons ha (pa_cons hb pa_nil hs3) hs') hs hs2) fun σ H R ⟨g, env, c, ig, rel, p⟩ => ⟨g, env, c, ig, rel, (Post.bind (T := Rp g) p).imp fun x H1 ⟨d, c1, k1, cu1, t1, p1⟩ => by
    have rel1 := rel.cu k1 cu1
    refine ⟨g, env, c1, ig, rel1, (Post.bind (T := Rp g) p1).imp fun y H2 ⟨d', c2, k2, cu2, t2, p2⟩ => ?_⟩
    cases d with
    | int n =>
      cases d' with
      | int n' =>
        have p3 : Post W g (fun H' ds J => DW g g.Ch J ds H') σ H2 (ofO (match decide (-(2 ^ 62) ≤ n ∧ n < 2 ^ 62 ∧ -(2 ^ 62) ≤ n' ∧ n' < 2 ^ 62) with | true => some ((List.range (n' - n).toNat).map fun (i : Nat) => D.int (n + (i : Int))) | false => none) c2) R := p2
        by_cases hn : -(2 ^ 62) ≤ n ∧ n < 2 ^ 62 ∧ -(2 ^ 62) ≤ n' ∧ n' < 2 ^ 62
        · rw [decide_eq_true hn] at p3
          exact ⟨n, n', by rw [show x = V.int n from t1, show y = V.int n' from t2], hn, p3.val cu2 (dw_rng rfl)⟩
        · rw [decide_eq_false hn] at p3; exact p3.elim
      | _ => exact p2.elim
    | _ => cases d' <;> exact p2.elim⟩
theorem YPair.new {xs ys : Nat → Option V} {i : Nat} {H H' : Hp} {v : V} (y : YPair xs ys i H v H') : Sam H H' ∧ ∃ T x z, v = .ref T ∧ xs i = some x ∧ ys i = some z ∧ H' T = some (.tup [x, z]) := by
  obtain ⟨T, x, z, h1, h2, h3, h4, h5⟩ := y
  subst h3
  exact ⟨.new h2, T, x, z, h1, h4, h5, upd_same⟩
theorem rp_pair {g : Gh} {H : Hp} {T : Addr} {x y : V} {a b : D} (h : H T = some (.tup [x, y])) (hx : Rp g H a x) (hy : Rp g H b y) : Rp g H (.raw [a, b]) (.ref T) := ⟨T, _, rfl, .of h, x, _, rfl, hx, y, _, rfl, hy, rfl⟩
theorem di_zip {elts : List Expr} {kk : Nat} {tpos : Pos} (ha : PE X a (tD φ W m fa)) (hb : PE X b (tD φ W m fb)) (hm : X.mg "zip" = none) (hg : Gl X "zip" := by rfl) (hs : starEach [a, b] X.env = (false, eval a X.env) :: starEach [b] X.env := by rfl)
    (hs3 : starEach (b :: []) X.env = (false, eval b X.env) :: starEach [] X.env := by rfl) (hpl : (backTo pos (starEach [b] X.env)).any (·.1) = false := by rfl) (hK : X.K = φ.K := by rfl) :
    PI X (.Tuple elts kk tpos) (.Call (.Name "zip" p) [a, b] [] pos) (tI φ W m (iZip fa fb)) :=
  PI.imp (RZ.pi_zipA hg hm (pa_cons ha (pa_cons hb pa_nil hs3) hs) hs hpl) fun σ H R ⟨g, env, c, ig, rel, p⟩ => ⟨g, env, c, ig, rel, (Post.bind (T := Rp g) p).imp fun x H1 ⟨d, c1, k1, cu1, t1, p1⟩ => by
    have rel1 := rel.cu k1 cu1
    have eK : X.K = g.K := hK.trans ig.1.symm
    refine ⟨g, env, c1, ig, rel1, (Post.bind (T := Rp g) p1).imp fun y H2 ⟨d', c2, k2, cu2, t2, p2⟩ => ?_⟩
    have rel2 := rel1.cu k2 cu2
    have t1' := t1.keep k2 cu1.cu
    have fin : ∀ {ds es : List D} {vs ws : List V} {i : Nat} {H3 H4 : Hp} {v : V}, RpL g H2 ds vs → RpL g H2 es ws → Keep g.Ch H2 H3 → YPair (fun i => vs[i]?) (fun i => ws[i]?) i H3 v H4 →
        Sam H3 H4 ∧ ∃ d, (dZip ds es)[i]? = some d ∧ ∀ g' : Gh, g'.K = g.K → g'.fa = g.fa → g'.ca = g.ca → (∀ a, g'.O a → g.O a ∨ H2 a = none) → Rp g' H4 d v := fun r1 r2 k3 y => by
      obtain ⟨k, T, x, z, rfl, h1, h2, h3⟩ := YPair.new y
      obtain ⟨u, e1, f1⟩ := r1.get' h1
      obtain ⟨u', e2, f2⟩ := r2.get' h2
      have k4 := k3.trans1 k.keep
      exact ⟨k, _, dZip_get _ _ _ _ _ e1 e2, fun g' q1 q2 q3 q4 => rp_pair h3 (f1.move k4 q1 q2 q3 rel2.chO q4) (f2.move k4 q1 q2 q3 rel2.chO q4)⟩
    cases d with
    | tup ds =>
      cases d' with
      | tup es =>
        obtain ⟨l, vs, rfl, hs0, hr⟩ := t1'
        obtain ⟨l', ws, rfl, hs0', hr'⟩ := t2
        have hs := hs0.t (K := g.K)
        have hs' := hs0'.t (K := g.K)
        refine ⟨l, l', vs, ws, rfl, .inr ⟨eK ▸ hs, eK ▸ hs', p2.val cu2 ?_⟩⟩
        show L2.Walk _ (dZip ds es).length _ _
        rw [dZip_length, ← hr.length, ← hr'.length, eK]
        refine ⟨fun i H hi q => ?_, fun H q => ⟨vs, ws, q.rdT hs, q.rdT hs', by omega⟩, fun i H v H' hi q y => fin hr hr' q ?_⟩
        · have h1 : i < vs.length := by omega
          have h2 : i < ws.length := by omega
          exact ⟨vs, ws, vs[i], ws[i], q.rdT hs, q.rdT hs', by simp [h1], by simp [h2]⟩
        · obtain ⟨T, x, z, h1, h2, h3, h4, h5⟩ := y
          exact ⟨T, x, z, h1, h2, h3, h4 vs (q.rdT hs), h5 ws (q.rdT hs')⟩
      | _ => exact p2.elim
    | lst ds =>
      cases d' with
      | lst es =>
        obtain ⟨l, vs, rfl, n, hs, hr⟩ := t1'
        obtain ⟨l', ws, rfl, n', hs', hr'⟩ := t2
        refine ⟨l, l', vs, ws, rfl, .inl ⟨.of hs, .of hs', p2.val cu2 ?_⟩⟩
        show L2.Walk _ (dZip ds es).length _ _
        rw [dZip_length, ← hr.length, ← hr'.length, eK]
        have nl : ∀ {l}, ¬ g.O l → ¬ g.Ch l := fun n z => n (rel2.chO _ z)
        exact L2.Walk.mono (walk_zip rfl) (fun H q => ⟨.of (q.rdL (nl n) hs), .of (q.rdL (nl n') hs')⟩) fun i H v H' hi q y => fin hr hr' q y
      | _ => exact p2.elim
    | _ => cases d' <;> exact p2.elim⟩
theorem di_enumL {elts : List Expr} {kk : Nat} {tpos : Pos} (ha : PE X a (tD φ W m fa)) (hm : X.mg "enumerate" = none) (hg : Gl X "enumerate" := by rfl) (hs : starEach [a] X.env = [(false, eval a X.env)] := by rfl) (hs' : starEach (a :: []) X.env = (false, eval a X.env) :: starEach [] X.env := by rfl) (hK : X.K = φ.K := by rfl) :
    PI X (.Tuple elts kk tpos) (.Call (.Name "enumerate" p) [a] [] pos) (tI φ W m (iEnumL fa)) :=
  PI.imp (pi_enum hg hm (pa_cons ha pa_nil hs') hs) fun σ H R ⟨g, env, c, ig, rel, p⟩ => ⟨g, env, c, ig, rel, (Post.bind (T := Rp g) p).imp fun x H1 ⟨d, c1, k1, cu1, t1, p1⟩ => by
    have rel1 := rel.cu k1 cu1
    have eK : X.K = g.K := hK.trans ig.1.symm
    cases d with
    | lst ds =>
      obtain ⟨l, vs, rfl, n, hs, hr⟩ := t1
      refine ⟨l, vs, rfl, .of hs, p1.val cu1 ?_⟩
      show L2.Walk _ (dEnum 0 ds).length _ _
      rw [dEnum_length, ← hr.length, eK]
      exact L2.Walk.mono walk_enum (fun H q => .of (q.rdL (fun z => n (rel1.chO _ z)) hs)) fun i H v H' hi q y => by
        obtain ⟨k, T, x, z, rfl, h1, h2, h3⟩ := YPair.new y
        obtain ⟨u, e1, f1⟩ := hr.get' h2
        refine ⟨k, _, dEnum_get _ 0 _ _ e1, fun g' q1 q2 q3 q4 => rp_pair h3 ?_ (f1.move (q.trans1 k.keep) q1 q2 q3 rel1.chO q4)⟩
        rw [← Option.some.inj h1, Nat.zero_add]
        rfl
    | _ => exact p1.elim⟩
end
end DL

namespace DL
open PySem PySem.Spec PyProof.Rows L2

/-! ### targets -/
abbrev Bd := D → En → Option En
def bN (i : Nat) : Bd := fun d env => some (env.set i (some d))
def bsN : List D → En → Option En := fun ds env => match ds with
  | [] => some env
  | _ => none
def bsC (b : Bd) (r : List D → En → Option En) : List D → En → Option En := fun ds env => match ds with
  | d :: ds => (b d env).bind (r ds)
  | [] => none
def bT (r : List D → En → Option En) : Bd := fun d env => match d with
  | .tup ds => r ds env
  | .raw ds => r ds env
  | .lst ds => r ds env
  | _ => none
/-- vs: the places that may change -/
def tGd (φ : Fx) (m vs : List Nat) (b : Bd) : TG := fun v σ H Q => ∃ g env c d, g.is φ ∧ Rel g m env c σ H ∧ Rp g H d v ∧ ∃ env', b d env = some env' ∧ ∀ σ', Rel g m env' c σ' H → wipe σ' vs = wipe σ vs → Q σ' H
def tGds (φ : Fx) (m vs : List Nat) (b : List D → En → Option En) : TGs := fun v σ H Q => ∃ g env c d, g.is φ ∧ Rel g m env c σ H ∧ RpL g H d v ∧ ∃ env', b d env = some env' ∧ ∀ σ', Rel g m env' c σ' H → wipe σ' vs = wipe σ vs → Q σ' H

theorem wipe_set {σ : L2.St} {i : Nat} {x : Option V} : ∀ {vs : List Nat}, i ∈ vs → wipe (σ.set i x) vs = wipe σ vs
  | [], h => by simp at h
  | v :: vs, h => by
    unfold wipe
    by_cases e : i ∈ vs
    · rw [wipe_set e]
    · have e' : i = v := by rcases List.mem_cons.mp h with z | z; exact z; exact absurd z e
      subst e'
      have key : ∀ {ws : List Nat}, i ∉ ws → wipe (σ.set i x) ws = (wipe σ ws).set i x := fun {ws} => by
        induction ws with
        | nil => intro _; rfl
        | cons w ws ih =>
          intro hn
          rw [List.mem_cons, not_or] at hn
          unfold wipe
          rw [ih hn.2, List.set_comm _ _ (fun z => hn.1 z)]
      rw [key e, List.set_set]
theorem wipe_wipe {σ : L2.St} {ws : List Nat} : ∀ {vs : List Nat}, (∀ i ∈ vs, i ∈ ws) → wipe (wipe σ vs) ws = wipe σ ws
  | [], _ => rfl
  | v :: vs, h => by
    show wipe ((wipe σ vs).set v none) ws = _
    rw [wipe_set (h v List.mem_cons_self), wipe_wipe fun i hi => h i (List.mem_cons_of_mem _ hi)]
theorem Rel.set {g : Gh} {m : List Nat} {env : En} {c : C} {σ : L2.St} {H : Hp} {i : Nat} {d : D} {v : V} (r : Rel g m env c σ H) (hi : i ∉ m) (h : Rp g H d v) : Rel g m (env.set i (some d)) c (σ.set i (some v)) H := by
  refine ⟨r.trk, r.cup, r.apart, by rw [List.length_set, List.length_set, r.len], fun j e n q => ?_, fun j e n q => ?_, fun j k e f w hj hk hjk q1 q2 q3 => ?_⟩
  · by_cases hj : i = j
    · subst hj
      have hl : i < env.length := by
        have := (List.getElem?_eq_some_iff.mp q).1
        rwa [List.length_set] at this
      rw [List.getElem?_set_self hl] at q
      cases q
      exact ⟨v, by rw [List.getElem?_set_self (by rw [← r.len]; exact hl)], h⟩
    · rw [List.getElem?_set_ne hj] at q
      rw [List.getElem?_set_ne hj]
      exact r.sh j e n q
  · have hj : i ≠ j := fun z => hi (z ▸ n)
    rw [List.getElem?_set_ne hj] at q
    rw [List.getElem?_set_ne hj]
    exact r.ow j e n q
  · have h1 : i ≠ j := fun z => hi (z ▸ hj)
    have h2 : i ≠ k := fun z => hi (z ▸ hk)
    rw [List.getElem?_set_ne h1] at q1 q3
    rw [List.getElem?_set_ne h2] at q2
    rw [List.getElem?_set_ne h2]
    exact r.sep j k e f w hj hk hjk q1 q2 q3
/-- forgetting -/
theorem Rel.weak {g : Gh} {m : List Nat} {env env' : En} {c : C} {σ σ' : L2.St} {H : Hp} (r : Rel g m env c σ H) (hl : env'.length = env.length) (hl' : σ'.length = σ.length)
    (h : ∀ (i : Nat) (d : D), env'[i]? = some (some d) → env[i]? = some (some d) ∧ σ'[i]? = σ[i]?) : Rel g m env' c σ' H := by
  refine ⟨r.trk, r.cup, r.apart, by rw [hl, hl', r.len], fun j e n q => ?_, fun j e n q => ?_, fun j k e f w hj hk hjk q1 q2 q3 => ?_⟩
  · obtain ⟨h1, h2⟩ := h j e q
    rw [h2]; exact r.sh j e n h1
  · obtain ⟨h1, h2⟩ := h j e q
    rw [h2]; exact r.ow j e n h1
  · obtain ⟨h1, h2⟩ := h j e q1
    obtain ⟨h3, h4⟩ := h k f q2
    rw [h2] at q3
    rw [h4]
    exact r.sep j k e f w hj hk hjk h1 h3 q3
/-- the places vs forgotten -/
def wipeE (env : En) : List Nat → En
  | [] => env
  | v :: vs => (wipeE env vs).set v none
theorem wipeE_length (env : En) : ∀ vs : List Nat, (wipeE env vs).length = env.length
  | [] => rfl
  | v :: vs => by unfold wipeE; rw [List.length_set, wipeE_length env vs]
theorem wipeE_some {env : En} {i : Nat} {d : D} : ∀ {vs : List Nat}, (wipeE env vs)[i]? = some (some d) → env[i]? = some (some d) ∧ i ∉ vs
  | [], h => ⟨h, by simp⟩
  | v :: vs, h => by
    unfold wipeE at h
    by_cases hi : v = i
    · subst hi
      by_cases hv : v < (wipeE env vs).length
      · rw [List.getElem?_set_self hv] at h; cases h
      · rw [List.getElem?_eq_none (by simpa using hv)] at h; cases h
    · rw [List.getElem?_set_ne hi] at h
      obtain ⟨h1, h2⟩ := wipeE_some h
      exact ⟨h1, by simp only [List.mem_cons, not_or]; exact ⟨fun e => hi e.symm, h2⟩⟩
theorem Rel.wipe {g : Gh} {m : List Nat} {env : En} {c : C} {σ : L2.St} {H : Hp} (vs : List Nat) (r : Rel g m env c σ H) : Rel g m (wipeE env vs) c (L2.wipe σ vs) H :=
  r.weak (wipeE_length _ _) (wipe_length _ _) fun i d h => by
    obtain ⟨h1, h2⟩ := wipeE_some h
    exact ⟨h1, wipe_out h2⟩
theorem Rel.wipeL {g : Gh} {m : List Nat} {env : En} {c : C} {σ : L2.St} {H : Hp} (vs : List Nat) (r : Rel g m env c σ H) : Rel g m (wipeE env vs) c σ H :=
  r.weak (wipeE_length _ _) rfl fun i d h => ⟨(wipeE_some h).1, rfl⟩
section
variable {X : Cx} {φ : Fx} {W : WX} {m vs : List Nat} {e : Expr} {es : List Expr} {b : Bd} {r : List D → En → Option En} {pos : Pos}
theorem PG.imp {t t' : TG} (h : PG X e t) (f : ∀ v σ H Q, t' v σ H Q → t v σ H Q) : PG X e t' := ⟨fun pins s σ H x u Q I r q => h.run pins s σ H x u Q I r (f x σ H Q q)⟩
theorem PGs.imp {t t' : TGs} (h : PGs X es t) (f : ∀ v σ H Q, t' v σ H Q → t v σ H Q) : PGs X es t' := ⟨fun pins s σ H x u Q I r q => h.run pins s σ H x u Q I r (f x σ H Q q)⟩
theorem dg_n {i : Nat} (h : PG X e (gName i)) (hm : i ∉ m := by decide) (hv : i ∈ vs := by decide) : PG X e (tGd φ m vs (bN i)) :=
  PG.imp h fun v σ H Q ⟨g, env, c, d, ig, rel, hr, env', hb, q⟩ => by
    cases hb
    exact q _ (rel.set hm hr) (wipe_set hv)
theorem dgs_n : PGs X [] (tGds φ m vs bsN) := PGs.imp pgs_nil fun v σ H Q ⟨g, env, c, d, ig, rel, hr, env', hb, q⟩ => by
  cases d with
  | nil => cases hb; exact ⟨hr, q σ rel rfl⟩
  | cons d ds => cases hb
theorem dgs_c (hp : PGs X (e :: es) (gCons (tGd φ m vs b) (tGds φ m vs r))) : PGs X (e :: es) (tGds φ m vs (bsC b r)) :=
  PGs.imp hp fun v σ H Q ⟨g, env, c, d, ig, rel, hr, env', hb, q⟩ => by
    cases d with
    | nil => cases hb
    | cons d ds =>
      obtain ⟨w, ws, rfl, hw, hws⟩ := hr
      have hb' : (b d env).bind (r ds) = some env' := hb
      cases e1 : b d env with
      | none => rw [e1] at hb'; cases hb'
      | some env1 =>
        rw [e1] at hb'
        exact ⟨w, ws, rfl, g, env, c, d, ig, rel, hw, env1, e1, fun σ1 rel1 w1 => ⟨g, env1, c, ds, ig, rel1, hws, env', hb', fun σ2 rel2 w2 => q σ2 rel2 (w2.trans w1)⟩⟩
theorem dg_t {k : Nat} {n : Nat} (hn : ∀ ds env env', r ds env = some env' → ds.length = n)
    (hp : PG X (.Tuple es k pos) (gSeq X.K n (tGds φ m vs r))) (hK : X.K = φ.K := by rfl) : PG X (.Tuple es k pos) (tGd φ m vs (bT r)) :=
  PG.imp hp fun v σ H Q ⟨g, env, c, d, ig, rel, hr, env', hb, q⟩ => by
    cases d with
    | tup ds =>
      obtain ⟨a, ws, rfl, hs, hl⟩ := hr
      exact .inl ⟨a, ws, rfl, hs.t, by rw [hl.length]; exact hn _ _ _ hb, g, env, c, ds, ig, rel, hl, env', hb, q⟩
    | raw ds =>
      obtain ⟨a, ws, rfl, hs, hl⟩ := hr
      exact .inl ⟨a, ws, rfl, hK ▸ ig.1 ▸ hs, by rw [hl.length]; exact hn _ _ _ hb, g, env, c, ds, ig, rel, hl, env', hb, q⟩
    | lst ds =>
      obtain ⟨a, ws, rfl, _, hs, hl⟩ := hr
      exact .inr ⟨a, ws, rfl, .of hs, by rw [hl.length]; exact hn _ _ _ hb, g, env, c, ds, ig, rel, hl, env', hb, q⟩
    | _ => cases hb
theorem bsN_len {ds : List D} {env env' : En} (h : bsN ds env = some env') : ds.length = 0 := by
  cases ds with
  | nil => rfl
  | cons _ _ => cases h
theorem bsC_len {n : Nat} (h : ∀ ds env env', r ds env = some env' → ds.length = n) {ds : List D} {env env' : En} (h' : bsC b r ds env = some env') : ds.length = n + 1 := by
  cases ds with
  | nil => cases h'
  | cons d ds =>
    have hb' : (b d env).bind (r ds) = some env' := h'
    cases e1 : b d env with
    | none => rw [e1] at hb'; cases hb'
    | some env1 => rw [e1] at hb'; rw [List.length_cons, h _ _ _ hb']
end

/-! ### a list comprehension with one for -/
/-- what is raised within is not let out -/
def R.bindB {α β : Type} (r : R α) (k : α → C → R β) : R β := match r with
  | .ok a c => k a c
  | _ => .bad
def lcGo (env : En) (b : Bd) (t : En → C → R Bool) (el : Ex) : List D → C → R (List D)
  | [], c => .ok [] c
  | d :: ds, c => match b d env with
    | none => .bad
    | some e1 => (t e1 c).bindB fun k c1 => match k with
      | true => (el e1 c1).bindB fun y c2 => (lcGo env b t el ds c2).bind fun ys c3 => .ok (y :: ys) c3
      | false => lcGo env b t el ds c1
def eLc (it : Exs) (own : List Nat) (b : Bd) (t : En → C → R Bool) (el : Ex) : Ex := fun env c => (it env c).bind fun ds c1 => match room ds.length with
  | true => (lcGo (wipeE env own) b t el ds c1).bind fun ys c2 => .ok (.lst ys) c2
  | false => .bad
def tYes : En → C → R Bool := fun _ c => .ok true c
abbrev W0 : WX := fun _ _ _ _ => False
theorem Post.ret {α β γ δ : Type} {W : WX} {g : Gh} {T : Hp → α → β → Prop} {T' : Hp → γ → δ → Prop} {σ : L2.St} {H : Hp} {r : R γ} {k : γ → C → R α} {Q : β → Hp → Prop} (h : Post W g T σ H (r.bind k) Q) (hr : r = .bad) : False := by
  subst hr; exact h
theorem Rel.grow {g : Gh} {m : List Nat} {env : En} {c : C} {σ : L2.St} {H : Hp} {p : Addr} {o : HO} (r : Rel g m env c σ H) (h : H p = none) : Rel (g.with p) m env c σ (L2.upd H p o) := by
  have mv : ∀ {d : D} {v : V}, Rp g H d v → Rp (g.with p) (L2.upd H p o) d v := fun z => Rp.move (g := g) (g' := g.with p) (F := fun _ => False) (.new h) rfl rfl rfl (fun _ z => z.elim) (Gh.with_O h) z
  have mvl : ∀ {d : List D} {v : List V}, RpL g H d v → RpL (g.with p) (L2.upd H p o) d v := fun z => RpL.move (g := g) (g' := g.with p) (F := fun _ => False) (.new h) rfl rfl rfl (fun _ z => z.elim) (Gh.with_O h) z
  refine ⟨fun a z => ?_, r.cup.new h, fun a z => z.elim (r.apart a) fun e y => r.trk a (.inl y) (e ▸ h), r.len, fun i d n e => ?_, fun i d n e => ?_, r.sep⟩
  · by_cases e : a = p
    · subst e; rw [upd_same]; simp
    · rw [upd_ne e]
      exact r.trk a (z.elim .inl fun y => y.elim .inr fun x => absurd x e)
  · obtain ⟨v, h1, h2⟩ := r.sh i d n e
    exact ⟨v, h1, mv h2⟩
  · obtain ⟨ds, a, vs, h1, h2, h3, h4, h5⟩ := r.ow i d n e
    exact ⟨ds, a, vs, h1, h2, .inl h3, by rw [upd_ne (ne_of_none h4 h)]; exact h4, mvl h5⟩
/-- an own list has changed -/
theorem Rel.upd {g : Gh} {m : List Nat} {env : En} {c : C} {σ : L2.St} {H : Hp} {p : Addr} {xs ys : List V} (r : Rel g m env c σ H) (hp : g.F p) (h : H p = some (.lst xs)) (hn : ∀ (i : Nat) d, i ∈ m → env[i]? = some (some d) → σ[i]? ≠ some (some (.ref p))) : Rel g m env c σ (L2.upd H p (.lst ys)) := by
  have k : Keep (fun a => a = p) H (L2.upd H p (.lst ys)) := .put rfl h
  have hO : ∀ a, a = p → g.O a := fun a z => z ▸ .inr hp
  refine ⟨fun a z => ?_, ?_, r.apart, r.len, fun i d n e => ?_, fun i d n e => ?_, r.sep⟩
  · by_cases e : a = p
    · subst e; rw [upd_same]; simp
    · rw [upd_ne e]; exact r.trk a z
  · exact r.cup.put h fun z => r.apart p hp (r.cup.O0 z)
  · obtain ⟨v, h1, h2⟩ := r.sh i d n e
    exact ⟨v, h1, h2.keep k hO⟩
  · obtain ⟨ds, a, vs, h1, h2, h3, h4, h5⟩ := r.ow i d n e
    have : a ≠ p := fun z => hn i d n e (z ▸ h2)
    exact ⟨ds, a, vs, h1, h2, h3, by rw [upd_ne this]; exact h4, h5.keep k hO⟩
section
variable {X : Cx} {φ : Fx} {W : WX} {m : List Nat} {elt tg iter e : Expr} {ifs : List Expr} {scope : Scope} {own : List (Str × Nat)} {pos : Pos} {is : Exs} {b : Bd} {t : En → C → R Bool} {el : Ex}
theorem dts_nil {X : Cx} : PTs X [] (tT φ W m DL.tYes) := ⟨fun pins s σ H Q I ⟨g, env, c, ig, rel, p⟩ => pts_nil.run pins s σ H Q I (p.val rel.cup rfl)⟩
theorem dts_one {X : Cx} (h : PT X e (tT φ W m t)) : PTs X [e] (tT φ W m t) := pts_one h
/-- the reading of a comprehension -/
theorem lc_run {vs : List Nat} {σ : L2.St} {H : Hp} {Q : VK} (h : tF φ W m (eLc is vs b t el) σ H Q) : tLc (tIc φ W m is) (tGd φ m vs b) (tT φ W0 m t) (tD φ W0 m el) vs σ H Q := by
  obtain ⟨g, env, c, ig, rel, p⟩ := h
  refine ⟨g, env, c, ig, rel, (Post.bind (T := fun H' ds J => DW g g.Cu J ds H') p).imp fun J H1 ⟨ds, c1, k1, cu1, wk, p1⟩ => ?_⟩
  have rel1 := rel.cu k1 cu1
  intro Dd hD
  cases hr : room ds.length with
  | false => rw [hr] at p1; exact p1.elim
  | true =>
  rw [hr] at p1
  have hsz := room_of hr
  have gO : g.O Dd → False := fun z => rel1.trk Dd z hD
  have igw : (g.with Dd).is φ := ig
  refine lc_it wk
    (fun i H => Keep g.Cu H1 H ∧ ∃ c' accD accV, CupAt g c' H ∧ H Dd = some (.lst accV) ∧ accV.length ≤ i ∧ RpL (g.with Dd) H accD accV ∧
      Post W g (FrF g H1) σ H1 ((lcGo (wipeE env vs) b t el (ds.drop i) c').bind fun ys c2 => .ok (.lst (accD ++ ys)) c2) Q) ?_ (fun i H _ q => q.1) ?_ ?_
  · refine ⟨.new hD, c1, [], [], cu1.new hD, upd_same, Nat.le_refl _, rfl, ?_⟩
    have p2 : Post W g (FrF g H) σ H1 ((lcGo (wipeE env vs) b t el ds c1).bind fun ys c2 => .ok (.lst ys) c2) Q := p1
    rw [List.drop_zero]
    cases q : lcGo (wipeE env vs) b t el ds c1 with
    | ok ys c2 => rw [q] at p2; exact fun v H' k' cu' ⟨ds', a', vs', e1, e2, n, e3, e4⟩ => p2 v H' k' cu' ⟨ds', a', vs', by rw [← e1]; rfl, e2, cu_fresh k1 cu1 n, e3, e4⟩
    | exc e c2 => rw [q] at p2; exact p2
    | bad => rw [q] at p2; exact p2
  · rintro i x H5 H6 hi ⟨k5, c', accD, accV, cu5, hDd, hlen, racc, p5⟩ ⟨k56, d, hd, rd⟩
    have hdrop : ds.drop i = d :: ds.drop (i + 1) := by
      obtain ⟨h1, h2⟩ := List.getElem?_eq_some_iff.mp hd
      rw [List.drop_eq_getElem_cons h1, h2]
    rw [hdrop] at p5
    have k6 : Keep g.Cu H1 H6 := k5.trans1 k56.keep
    have cu6 : CupAt g c' H6 := cu5.sam k56
    have hDd6 : H6 Dd = some (.lst accV) := k56 _ _ hDd
    have mv : ∀ {d : D} {v : V}, Rp g H1 d v → Rp (g.with Dd) H6 d v := fun z => Rp.move (g := g) (g' := g.with Dd) k6 rfl rfl rfl rel1.cup.cu (Gh.with_O hD) z
    have mvl : ∀ {d : List D} {v : List V}, RpL g H1 d v → RpL (g.with Dd) H6 d v := fun z => RpL.move (g := g) (g' := g.with Dd) k6 rfl rfl rfl rel1.cup.cu (Gh.with_O hD) z
    have rel6 : Rel (g.with Dd) m (wipeE env vs) c' (L2.wipe σ vs) H6 := by
      have r1 := rel1.wipe vs
      have r0 := r1.cu k6 cu6
      refine ⟨fun a z => ?_, cu6, fun a z => z.elim (r1.apart a) fun e y => rel1.trk a (.inl y) (e ▸ hD), r1.len, fun j d n e => ?_, fun j d n e => ?_, r1.sep⟩
      · by_cases e : a = Dd
        · subst e; rw [hDd6]; simp
        · exact r0.trk a (z.elim .inl fun y => y.elim .inr fun x => absurd x e)
      · obtain ⟨v, h1, h2⟩ := r1.sh j d n e
        exact ⟨v, h1, mv h2⟩
      · obtain ⟨ds', a, vs', h1, h2, h3, h4, h5⟩ := r1.ow j d n e
        exact ⟨ds', a, vs', h1, h2, .inl h3, k6.get a _ h4 fun z => absurd (rel1.cup.O0 z) (rel1.apart a h3), mvl h5⟩
    have rd6 : Rp (g.with Dd) H6 d x := rd (g.with Dd) rfl rfl rfl (Gh.with_O hD)
    have p6 : Post W g (FrF g H1) σ H1 ((lcGo (wipeE env vs) b t el (d :: ds.drop (i + 1)) c').bind fun ys c2 => .ok (.lst (accD ++ ys)) c2) Q := p5
    unfold lcGo at p6
    cases hb : b d (wipeE env vs) with
    | none => rw [hb] at p6; exact p6.elim
    | some e1 =>
    rw [hb] at p6
    dsimp only at p6
    refine ⟨g.with Dd, _, c', d, ig, rel6, rd6, e1, hb, fun σ2 rel2 hw => ⟨hw.trans (wipe_wipe fun _ h => h), g.with Dd, e1, c', ig, rel2, ?_⟩⟩
    have racc6 : RpL (g.with Dd) H6 accD accV := racc.keep (F := fun _ => False) k56.keep fun _ z => z.elim
    -- the test, then the item
    cases ht : t e1 c' with
    | exc _ _ => rw [ht] at p6; exact p6.elim
    | bad => rw [ht] at p6; exact p6.elim
    | ok kk c1' =>
    rw [ht] at p6
    dsimp only [R.bindB] at p6
    intro kk' H7 k67 cu7 te
    cases te
    have k7 : Keep g.Cu H1 H7 := k6.trans1 k67
    have hDd7 : H7 Dd = some (.lst accV) := k67.get _ _ hDd6 fun z => absurd (rel1.cup.O0 z) fun y => gO (.inl y)
    have racc7 : RpL (g.with Dd) H7 accD accV := racc6.keep k67 rel6.cup.cu
    cases kk with
    | false =>
      rw [if_neg Bool.false_ne_true]
      exact ⟨k7, c1', accD, accV, cu7, hDd7, Nat.le_succ_of_le hlen, racc7, p6⟩
    | true =>
    rw [if_pos rfl]
    have p7 : Post W g (FrF g H1) σ H1 (((el e1 c1').bindB fun y c2 => (lcGo (wipeE env vs) b t el (ds.drop (i + 1)) c2).bind fun ys c3 => R.ok (y :: ys) c3).bind fun ys c2 => R.ok (.lst (accD ++ ys)) c2) Q := p6
    refine ⟨g.with Dd, e1, c1', ig, rel2.cu k67 cu7, ?_⟩
    cases he : el e1 c1' with
    | exc _ _ => rw [he] at p7; exact p7.elim
    | bad => rw [he] at p7; exact p7.elim
    | ok y c2 =>
    rw [he] at p7
    dsimp only [R.bindB] at p7
    intro yv H8 k78 cu8 ry
    have k8 : Keep g.Cu H1 H8 := k7.trans1 k78
    have hDd8 : H8 Dd = some (.lst accV) := k78.get _ _ hDd7 fun z => absurd (rel1.cup.O0 z) fun y => gO (.inl y)
    have racc8 : RpL (g.with Dd) H8 accD accV := racc7.keep k78 rel6.cup.cu
    have kD : Keep (fun a => a = Dd) H8 (L2.upd H8 Dd (.lst (accV ++ [yv]))) := .put rfl hDd8
    have hO : ∀ a, a = Dd → (g.with Dd).O a := fun a z => .inr (.inr z)
    refine ⟨accV, hDd8, by have := (List.getElem?_eq_some_iff.mp hd).1; omega, ?_, c2, accD ++ [y], accV ++ [yv], ?_, upd_same, by simp; omega, (racc8.append (.one ry)).keep kD hO, ?_⟩
    · exact k8.trans kD fun a z => .inr (z ▸ hD)
    · exact cu8.put hDd8 fun z => gO (.inl (rel1.cup.O0 z))
    · revert p7
      cases q : lcGo (wipeE env vs) b t el (ds.drop (i + 1)) c2 with
      | ok ys c3 => intro p7; show Post W g (FrF g H1) σ H1 (R.ok (.lst ((accD ++ [y]) ++ ys)) c3) Q; rw [show (accD ++ [y]) ++ ys = accD ++ (y :: ys) by rw [List.append_assoc]; rfl]; exact p7
      | exc e c3 => exact fun p => p
      | bad => exact fun p => p
  · rintro H5 ⟨k5, c', accD, accV, cu5, hDd, hlen, racc, p5⟩
    rw [List.drop_length] at p5
    have p6 : Post W g (FrF g H1) σ H1 (R.ok (.lst (accD ++ [])) c') Q := p5
    exact p6 _ H5 k5 cu5 ⟨_, Dd, accV, rfl, rfl, hD, hDd, by rw [List.append_nil]; exact racc⟩
theorem df_lc (hi : PI X tg iter (tIc φ W m is)) (ok : BlkOk X.N X.env.scope scope own)
    (hg : ∀ (s : Shared) (H : Hp) (C : Addr) (cl : List (Str × Addr)) (fp : List Addr), PG (X.blk s H scope (compEnvC scope cl C X.env) fp) tg (tGd φ m (own.map (·.2)) b))
    (ht : ∀ (s : Shared) (H : Hp) (C : Addr) (cl : List (Str × Addr)) (fp : List Addr), PTs (X.blk s H scope (compEnvC scope cl C X.env) fp) ifs (tT φ W0 m t))
    (he : ∀ (s : Shared) (H : Hp) (C : Addr) (cl : List (Str × Addr)) (fp : List Addr), PE (X.blk s H scope (compEnvC scope cl C X.env) fp) elt (tD φ W0 m el))
    (hN : X.N.Nodup) (hc : X.calm = true := by rfl) (hs : ∀ x, foldedSetIterable iter X.env x = pure x := by intro _; rfl) : PE X (.ListComp elt [⟨tg, iter, ifs, 0⟩] scope pos) (tF φ W m (eLc is (own.map (·.2)) b t el)) :=
  PE.imp (pe_lc hc hN hi ok hg ht he hs) fun σ H Q h => lc_run h
end
end DL

namespace DL
open PySem PySem.Spec PyProof.Rows L2

/-! ### statements -/
structure Ext (g g' : Gh) (H : Hp) : Prop where
  K : g'.K = g.K
  fa : g'.fa = g.fa
  ec : g'.ec = g.ec
  ca : g'.ca = g.ca
  T : g'.T = g.T
  O0 : g'.O0 = g.O0
  new : ∀ a, g'.F a → g.F a ∨ H a = none
theorem Ext.refl {g : Gh} {H : Hp} : Ext g g H := ⟨rfl, rfl, rfl, rfl, rfl, rfl, fun _ h => .inl h⟩
theorem Ext.is {g g' : Gh} {H : Hp} {φ : Fx} (e : Ext g g' H) (h : g.is φ) : g'.is φ := ⟨e.K.trans h.1, e.fa.trans h.2.1, e.ec.trans h.2.2.1, e.T.trans h.2.2.2⟩
theorem Ext.ch {g g' : Gh} {H : Hp} (e : Ext g g' H) : ∀ a, g'.Ch a → g.Ch a ∨ H a = none := fun a h => h.elim (fun y => (e.new a y).imp .inl id) fun y => .inl (.inr (e.ca ▸ y))
/-- one after another: what was untracked then was untracked before -/
theorem Ext.trans {g g1 g2 : Gh} {H H1 : Hp} (e : Ext g g1 H) (e' : Ext g1 g2 H1) (f : ∀ a, H1 a = none → H a = none) : Ext g g2 H :=
  ⟨e'.K.trans e.K, e'.fa.trans e.fa, e'.ec.trans e.ec, e'.ca.trans e.ca, e'.T.trans e.T, e'.O0.trans e.O0, fun a h => (e'.new a h).elim (e.new a) fun z => .inr (f a z)⟩
/-- the frame's list of all: what a statement leaves -/
structure Aft (g g' : Gh) (H H' : Hp) : Prop where
  ext : Ext g g' H
  keep : Keep g.Ch H H'
theorem Aft.refl {g : Gh} {H : Hp} : Aft g g H H := ⟨.refl, .refl⟩
theorem Aft.trans {g g1 g2 : Gh} {H H1 H2 : Hp} (a : Aft g g1 H H1) (b : Aft g1 g2 H1 H2) : Aft g g2 H H2 :=
  ⟨a.ext.trans b.ext fun x h => a.keep.fresh h, a.keep.trans b.keep a.ext.ch⟩
theorem Aft.cu {g : Gh} {c c' : C} {H H' : Hp} (cu : CupAt g c H) (cu' : CupAt g c' H') (k : Keep g.Cu H H') : Aft g g H H' := ⟨.refl, k.mono fun _ z => .inr z⟩
/-- the end of a def: told as from without -/
def Gh.out (g : Gh) : Gh := { g with F := fun _ => False }
def SPost (W : WX) (g : Gh) (m' : List Nat) (D : Ends) (σ : L2.St) (H : Hp) (r : R Fl) : Prop := match r with
  | .ok (.nx env') c' => ∀ g' σ' H', Aft g g' H H' → Rel g' m' env' c' σ' H' → D.nx σ' H'
  | .ok (.rt d) c' => ∀ v H', Keep g.Ch H H' → CupAt g c' H' → Rp g.out H' d v → D.rt v H'
  | .exc k c' => ∀ σ' H', Keep g.Ch H H' → CupAt g c' H' → W (.ref (g.ec k)) none σ' H'
  | .bad => False
theorem CupAt.ext {g g' : Gh} {c : C} {H H' : Hp} (e : Ext g g' H') (h : CupAt g' c H) : CupAt g c H := by
  unfold CupAt at h ⊢
  rw [e.ca, e.O0, e.T] at h
  exact h
theorem CupAt.ext' {g g' : Gh} {c : C} {H H' : Hp} (e : Ext g g' H') (h : CupAt g c H) : CupAt g' c H := by
  unfold CupAt at h ⊢
  rw [e.ca, e.O0, e.T]
  exact h
theorem SPost.after {W : WX} {g g1 : Gh} {m' : List Nat} {D : Ends} {σ σ1 : L2.St} {H H1 : Hp} {r : R Fl} (h : SPost W g m' D σ H r) (a : Aft g g1 H H1) : SPost W g1 m' D σ1 H1 r := by
  cases r with
  | ok f c =>
    cases f with
    | nx env => exact fun g' σ' H' b rel => h g' σ' H' (a.trans b) rel
    | rt d => exact fun v H' k cu r => h v H' (a.keep.trans k a.ext.ch) (cu.ext a.ext) (r.narrow (g' := g.out) a.ext.K.symm a.ext.fa.symm a.ext.ca.symm fun x z => .inl (z.elim (fun y => .inl (by show g1.O0 x; rw [a.ext.O0]; exact y)) False.elim))
  | exc e c => exact fun σ' H' k cu => by rw [a.ext.ec]; exact h σ' H' (a.keep.trans k a.ext.ch) (cu.ext a.ext)
  | bad => exact h
theorem SPost.mono {W : WX} {g : Gh} {m' : List Nat} {D D' : Ends} {σ : L2.St} {H : Hp} {r : R Fl} (h : SPost W g m' D σ H r) (hn : ∀ σ H, D.nx σ H → D'.nx σ H) (hr : ∀ v H, D.rt v H → D'.rt v H) : SPost W g m' D' σ H r := by
  cases r with
  | ok f c =>
    cases f with
    | nx env => exact fun g' σ' H' b rel => hn _ _ (h g' σ' H' b rel)
    | rt d => exact fun v H' k cu r => hr _ _ (h v H' k cu r)
  | exc e c => exact h
  | bad => exact h
def tSt (φ : Fx) (W : WX) (m m' : List Nat) (s : Sx) : TS := fun D σ H => ∃ g env c, g.is φ ∧ Rel g m env c σ H ∧ SPost W g m' D σ H (s env c)

def sNx : Sx := fun env c => .ok (.nx env) c
def sSeq (s t : Sx) : Sx := fun env c => (s env c).bind fun f c1 => match f with
  | .nx e1 => t e1 c1
  | .rt d => .ok (.rt d) c1
def sRet (e : Ex) : Sx := fun env c => (e env c).bind fun d c1 => .ok (.rt d) c1
def sSet (i : Nat) (e : Ex) : Sx := fun env c => (e env c).bind fun d c1 => .ok (.nx (env.set i (some d))) c1
def sDrop (e : Ex) : Sx := fun env c => (e env c).bind fun _ c1 => .ok (.nx env) c1
def sIf (t : En → C → R Bool) (a b : Sx) : Sx := fun env c => (t env c).bind fun x c1 => match x with
  | true => a env c1
  | false => b env c1
def sBd (b : Bd) (e : Ex) : Sx := fun env c => (e env c).bind fun d c1 => match b d env with
  | some e1 => .ok (.nx e1) c1
  | none => .bad

section
variable {X : Cx} {φ : Fx} {W : WX} {m m' m'' : List Nat} {e : Expr} {st : Stmt} {rest : List Stmt} {f : Ex} {s t : Sx} {pos : Pos}
/-- from an expression's end to a statement's -/
theorem SPost.of {α : Type} {g : Gh} {D : Ends} {σ : L2.St} {H : Hp} {env : En} {c : C} {r : R α} {k : α → C → R Fl} {β : Type} {T : Hp → α → β → Prop} {Q : β → Hp → Prop} (rel : Rel g m env c σ H) (p : SPost W g m' D σ H (r.bind k))
    (h : ∀ v H1 d c1, Keep g.Cu H H1 → CupAt g c1 H1 → T H1 d v → SPost W g m' D σ H1 (k d c1) → Q v H1) : Post W g T σ H r Q := by
  cases r with
  | ok d c1 => exact fun v H1 ke cu t => h v H1 d c1 ke cu t (SPost.after p (.cu rel.cup cu ke))
  | exc e c1 => exact fun H' ke cu => p σ H' (ke.mono fun _ z => .inr z) cu
  | bad => exact p
theorem dss_nil : PSs X [] (tSt φ W m m sNx) := PSs.imp pss_nil fun D σ H ⟨g, env, c, ig, rel, p⟩ => p g σ H .refl rel
theorem dss_cons (h1 : PS X st (tSt φ W m m' s)) (h2 : PSs X rest (tSt φ W m' m'' t)) : PSs X (st :: rest) (tSt φ W m m'' (sSeq s t)) :=
  PSs.imp (pss_cons h1 h2) fun D σ H ⟨g, env, c, ig, rel, p⟩ => ⟨g, env, c, ig, rel, by
    unfold sSeq at p
    cases q : s env c with
    | ok fl c1 =>
      rw [q] at p
      cases fl with
      | nx e1 => exact fun g' σ' H' a rel' => ⟨g', e1, c1, a.ext.is ig, rel', SPost.after p a⟩
      | rt d => exact p
    | exc k c1 => rw [q] at p; exact p
    | bad => rw [q] at p; exact p⟩
theorem ds_ret (he : PE X e (tD φ W m f)) : PS X (.Return (some e) pos) (tSt φ W m m' (sRet f)) :=
  PS.imp (ps_ret he) fun D σ H ⟨g, env, c, ig, rel, p⟩ => ⟨g, env, c, ig, rel, SPost.of rel p fun v H1 d c1 k cu t p1 => p1 v H1 .refl cu (t.narrow rfl rfl rfl fun x z => .inl (z.elim .inl False.elim))⟩
/-- return x, x a list of the frame's own -/
theorem ds_retO {i : Nat} (he : PE X e (tVar i)) (hi : i ∈ m := by decide) : PS X (.Return (some e) pos) (tSt φ W m m' (sRet (eV i))) :=
  PS.imp (ps_ret he) fun D σ H ⟨g, env, c, ig, rel, p⟩ => by
    unfold sRet eV at p
    cases hd : env.getD i none with
    | none => rw [hd] at p; exact p.elim
    | some d =>
      rw [hd] at p
      obtain ⟨ds, a, vs, rfl, h2, h3, h4, h5⟩ := rel.ow i d hi (getD_some hd)
      exact ⟨_, h2, p _ H .refl rel.cup ⟨a, vs, rfl, fun z => z.elim (rel.apart a h3) False.elim, h4, h5.narrow rfl rfl rfl fun x z => .inl (z.elim .inl False.elim)⟩⟩
theorem ds_expr (he : PE X e (tD φ W m f)) (hs : swapsWith e none pos.line X.env = pure false := by rfl) : PS X (.Expr e pos) (tSt φ W m m (sDrop f)) :=
  PS.imp (ps_expr he hs) fun D σ H ⟨g, env, c, ig, rel, p⟩ => ⟨g, env, c, ig, rel, SPost.of rel p fun v H1 d c1 k cu t p1 => p1 g σ H1 .refl (rel.cu k cu)⟩
theorem ds_pass : PS X (.Pass pos) (tSt φ W m m sNx) := PS.imp ps_pass fun D σ H ⟨g, env, c, ig, rel, p⟩ => p g σ H .refl rel
theorem ds_if {c : Expr} {a b : List Stmt} {tc : En → C → R Bool} (hc : PT X c (tT φ W m tc)) (ha : PSs X a (tSt φ W m m' s)) (hb : PSs X b (tSt φ W m m' t)) : PS X (.If c a b pos) (tSt φ W m m' (sIf tc s t)) :=
  PS.imp (ps_if hc ha hb) fun D σ H ⟨g, env, c, ig, rel, p⟩ => ⟨g, env, c, ig, rel, SPost.of rel p fun v H1 d c1 k cu t p1 => by
    cases t
    cases v with
    | true => exact ⟨g, env, c1, ig, rel.cu k cu, p1⟩
    | false => exact ⟨g, env, c1, ig, rel.cu k cu, p1⟩⟩
/-- x = e -/
theorem ds_set {i : Nat} {te : TE} (h : PS X st (tAsg te (gName i))) (he : ∀ σ H Q, tD φ W m f σ H Q → te σ H Q) (hi : i ∉ m := by decide) : PS X st (tSt φ W m m (sSet i f)) :=
  PS.imp h fun D σ H ⟨g, env, c, ig, rel, p⟩ => he _ _ _ ⟨g, env, c, ig, rel, SPost.of rel p fun v H1 d c1 k cu t p1 => p1 g _ H1 .refl ((rel.cu k cu).set hi t)⟩
/-- a pattern = e -/
theorem ds_bd {te : TE} {b : Bd} {vs : List Nat} (h : PS X st (tAsg te (tGd φ m vs b))) (he : ∀ σ H Q, tD φ W m f σ H Q → te σ H Q) : PS X st (tSt φ W m m (sBd b f)) :=
  PS.imp h fun D σ H ⟨g, env, c, ig, rel, p⟩ => he _ _ _ ⟨g, env, c, ig, rel, SPost.of rel p fun v H1 d c1 k cu t p1 => by
    cases hb : b d env with
    | none => rw [hb] at p1; exact p1.elim
    | some e1 =>
      rw [hb] at p1
      exact ⟨g, env, c1, d, ig, rel.cu k cu, t, e1, hb, fun σ' rel' _ => p1 g σ' H1 .refl rel'⟩⟩
/-- x is to be the name of a new list of the frame's own -/
theorem Rel.own {g : Gh} {env : En} {c c' : C} {σ : L2.St} {H0 H : Hp} {i : Nat} {ds : List D} {a : Addr} {vs : List V} (r : Rel g m env c σ H0) (k : Keep g.Cu H0 H) (cu : CupAt g c' H) (n : H0 a = none) (ha : H a = some (.lst vs)) (hr : RpL (g.with a) H ds vs)
    (hm : ∀ j, j ∈ m' → j = i ∨ j ∈ m) (hm' : ∀ j, j ∉ m' → j ≠ i ∧ j ∉ m) : Rel (g.with a) m' (env.set i (some (.lst ds))) c' (σ.set i (some (.ref a))) H := by
  have nO : ¬ g.O a := fun z => r.trk a z n
  have mv : ∀ {d : D} {v : V}, Rp g H0 d v → Rp (g.with a) H d v := fun z => Rp.move (g := g) (g' := g.with a) k rfl rfl rfl r.cup.cu (Gh.with_O n) z
  have mvl : ∀ {d : List D} {v : List V}, RpL g H0 d v → RpL (g.with a) H d v := fun z => RpL.move (g := g) (g' := g.with a) k rfl rfl rfl r.cup.cu (Gh.with_O n) z
  have rc := r.cu k cu
  have old : ∀ (j : Nat) (d : D), j ≠ i → j ∈ m → env[j]? = some (some d) → ∃ ds b vs, d = .lst ds ∧ σ[j]? = some (some (.ref b)) ∧ g.F b ∧ H0 b = some (.lst vs) ∧ RpL g H0 ds vs := fun j d _ hj q => r.ow j d hj q
  refine ⟨fun b z => ?_, cu, fun b z => z.elim (r.apart b) fun e y => nO (.inl (e ▸ y)), by rw [List.length_set, List.length_set, r.len], fun j e q1 q => ?_, fun j e q1 q => ?_, fun j l e f w hj hl hjl q1 q2 q3 => ?_⟩
  · by_cases e : b = a
    · subst e; rw [ha]; simp
    · exact rc.trk b (z.elim .inl fun y => y.elim .inr fun x => absurd x e)
  · obtain ⟨h1, h2⟩ := hm' j q1
    rw [List.getElem?_set_ne (Ne.symm h1)] at q
    rw [List.getElem?_set_ne (Ne.symm h1)]
    obtain ⟨v, h3, h4⟩ := r.sh j e h2 q
    exact ⟨v, h3, mv h4⟩
  · by_cases h1 : j = i
    · subst h1
      have hl : j < env.length := by
        have := (List.getElem?_eq_some_iff.mp q).1
        rwa [List.length_set] at this
      rw [List.getElem?_set_self hl] at q
      cases q
      exact ⟨ds, a, vs, rfl, by rw [List.getElem?_set_self (by rw [← r.len]; exact hl)], .inr rfl, ha, hr⟩
    · rw [List.getElem?_set_ne (Ne.symm h1)] at q
      rw [List.getElem?_set_ne (Ne.symm h1)]
      obtain ⟨es, b, ws, e1, e2, e3, e4, e5⟩ := r.ow j e ((hm j q1).resolve_left h1) q
      exact ⟨es, b, ws, e1, e2, .inl e3, k.get b _ e4 fun z => absurd (r.cup.O0 z) (r.apart b e3), mvl e5⟩
  · have other : ∀ (j : Nat) (e : D) (w : V), j ∈ m' → j ≠ i → (env.set i (some (.lst ds)))[j]? = some (some e) → (σ.set i (some (.ref a)))[j]? = some (some w) → w ≠ .ref a := fun j e w hj h1 q q' z => by
      rw [List.getElem?_set_ne (Ne.symm h1)] at q q'
      obtain ⟨es, b, ws, e1, e2, e3, e4, e5⟩ := r.ow j e ((hm j hj).resolve_left h1) q
      rw [e2] at q'
      cases q'
      cases z
      rw [n] at e4; cases e4
    have self : ∀ (j : Nat) (e : D) (w : V), j = i → (env.set i (some (.lst ds)))[j]? = some (some e) → (σ.set i (some (.ref a)))[j]? = some (some w) → w = .ref a := fun j e w h1 q q' => by
      subst h1
      have hl : j < σ.length := by
        have := (List.getElem?_eq_some_iff.mp q').1
        rwa [List.length_set] at this
      rw [List.getElem?_set_self hl] at q'
      exact (Option.some.inj (Option.some.inj q')).symm
    by_cases h1 : j = i
    · have hw := self j e w h1 q1 q3
      subst hw
      exact fun q4 => other l f _ hl (fun z => hjl (h1.trans z.symm)) q2 q4 rfl
    · by_cases h2 : l = i
      · intro q4
        exact other j e w hj h1 q1 q3 (self l f w h2 q2 q4)
      · rw [List.getElem?_set_ne (Ne.symm h1)] at q1 q3
        rw [List.getElem?_set_ne (Ne.symm h2)] at q2
        rw [List.getElem?_set_ne (Ne.symm h2)]
        exact r.sep j l e f w ((hm j hj).resolve_left h1) ((hm l hl).resolve_left h2) hjl q1 q2 q3
theorem Aft.own {g : Gh} {H0 H : Hp} {a : Addr} {c c' : C} (cu0 : CupAt g c H0) (cu : CupAt g c' H) (k : Keep g.Cu H0 H) (n : H0 a = none) : Aft g (g.with a) H0 H :=
  ⟨⟨rfl, rfl, rfl, rfl, rfl, rfl, fun b h => h.elim .inl fun (z : b = a) => .inr (by rw [z]; exact n)⟩, k.mono fun _ z => .inr z⟩
/-- x = e, e a new list, x changed later on -/
theorem ds_own {i : Nat} {te : TE} (h : PS X st (tAsg te (gName i))) (he : ∀ σ H Q, tF φ W m f σ H Q → te σ H Q) (hm : ∀ j, j ∈ m' → j = i ∨ j ∈ m) (hm' : ∀ j, j ∉ m' → j ≠ i ∧ j ∉ m) : PS X st (tSt φ W m m' (sSet i f)) :=
  PS.imp h fun D σ H ⟨g, env, c, ig, rel, p⟩ => he _ _ _ ⟨g, env, c, ig, rel, by
    unfold sSet at p
    cases q : f env c with
    | ok d c1 =>
      rw [q] at p
      intro v H1 k cu ⟨ds, a, vs, e1, e2, n, ha, hr⟩
      subst e1; subst e2
      exact p (g.with a) _ H1 (.own rel.cup cu k n) (Rel.own rel k cu n ha hr hm hm')
    | exc k c1 => rw [q] at p; exact fun H' k' cu => p σ H' (k'.mono fun _ z => .inr z) cu
    | bad => rw [q] at p; exact p⟩
/-! ### an own list changes -/
def sApp (i : Nat) (e : Ex) : Sx := fun env c => match env.getD i none with
  | some (.lst ds) => (e env c).bind fun d c1 => match room (ds.length + 1) with
    | true => .ok (.nx (env.set i (some (.lst (ds ++ [d]))))) c1
    | false => .bad
  | _ => .bad
def sExt (i : Nat) (e : Ex) : Sx := fun env c => match env.getD i none with
  | some (.lst ds) => (e env c).bind fun d c1 => match d with
    | .lst es => match room (ds.length + es.length) with
      | true => .ok (.nx (env.set i (some (.lst (ds ++ es))))) c1
      | false => .bad
    | _ => .bad
  | _ => .bad
/-- x[k] = e, x an own list -/
def sPut (i : Nat) (e k : Ex) : Sx := fun env c => (e env c).bind fun d c1 => match env.getD i none with
  | some (.lst ds) => (k env c1).bind fun k c2 => match k with
    | .int n => match ixN ds.length n with
      | some j => .ok (.nx (env.set i (some (.lst (ds.set j d))))) c2
      | none => .bad
    | _ => .bad
  | _ => .bad
theorem Rel.put {g : Gh} {env : En} {c : C} {σ : L2.St} {H : Hp} {i : Nat} {ds : List D} {a : Addr} {xs ys : List V} (r : Rel g m env c σ H) (hi : i ∈ m) (hd : ∃ d, env[i]? = some (some d)) (hσ : σ[i]? = some (some (.ref a))) (hF : g.F a) (ha : H a = some (.lst xs)) (hr : RpL g H ds ys) :
    Rel g m (env.set i (some (.lst ds))) c σ (L2.upd H a (.lst ys)) := by
  have k : Keep (fun b => b = a) H (L2.upd H a (.lst ys)) := .put rfl ha
  have hO : ∀ b, b = a → g.O b := fun b z => by rw [z]; exact .inr hF
  obtain ⟨d0, hd0⟩ := hd
  have hl : i < env.length := (List.getElem?_eq_some_iff.mp hd0).1
  refine ⟨fun b z => ?_, ?_, r.apart, by rw [List.length_set]; exact r.len, fun j d n e => ?_, fun j d n e => ?_, fun j l e f w hj hl' hjl q1 q2 q3 => ?_⟩
  · by_cases e : b = a
    · subst e; rw [upd_same]; simp
    · rw [upd_ne e]; exact r.trk b z
  · exact r.cup.put ha fun z => r.apart a hF (r.cup.O0 z)
  · have : i ≠ j := fun z => n (z ▸ hi)
    rw [List.getElem?_set_ne this] at e
    obtain ⟨v, h1, h2⟩ := r.sh j d n e
    exact ⟨v, h1, h2.keep k hO⟩
  · by_cases h : i = j
    · subst h
      rw [List.getElem?_set_self hl] at e
      cases e
      exact ⟨ds, a, ys, rfl, hσ, hF, upd_same, hr.keep k hO⟩
    · rw [List.getElem?_set_ne h] at e
      obtain ⟨es, b, vs, h1, h2, h3, h4, h5⟩ := r.ow j d n e
      have : b ≠ a := fun z => by
        subst z
        exact r.sep i j d0 d _ hi n h hd0 e hσ h2
      exact ⟨es, b, vs, h1, h2, h3, by rw [upd_ne this]; exact h4, h5.keep k hO⟩
  · have e1 : ∃ d, env[j]? = some (some d) := by
      by_cases h : i = j
      · exact ⟨d0, h ▸ hd0⟩
      · rw [List.getElem?_set_ne h] at q1; exact ⟨_, q1⟩
    have e2 : ∃ d, env[l]? = some (some d) := by
      by_cases h : i = l
      · exact ⟨d0, h ▸ hd0⟩
      · rw [List.getElem?_set_ne h] at q2; exact ⟨_, q2⟩
    obtain ⟨d1, e1⟩ := e1
    obtain ⟨d2, e2⟩ := e2
    exact r.sep j l d1 d2 w hj hl' hjl e1 e2 q3
theorem Aft.put {g : Gh} {H : Hp} {a : Addr} {xs ys : List V} (hF : g.F a) (ha : H a = some (.lst xs)) : Aft g g H (L2.upd H a (.lst ys)) := ⟨.refl, .put (.inl hF) ha⟩
theorem RpL.set {g : Gh} {H : Hp} {d : D} {v : V} (h : Rp g H d v) : ∀ {ds : List D} {vs : List V} (j : Nat), RpL g H ds vs → RpL g H (ds.set j d) (vs.set j v)
  | [], _, _, r => by simp only [RpL] at r; subst r; rfl
  | _ :: _, _, 0, ⟨w, ws, e, h1, r⟩ => by subst e; exact ⟨v, ws, rfl, h, r⟩
  | _ :: _, _, j + 1, ⟨w, ws, e, h1, r⟩ => by subst e; exact ⟨w, _, rfl, h1, RpL.set h j r⟩
theorem room_lt {n k : Nat} (h : room (n + (k + 1)) = true) : n < sizeLine := by have := room_of h; omega
/-- x.append(e) -/
theorem ds_app {i : Nat} {te : TE} (h : PS X st (tDrop (tBM X.K "list" rAppend (tVar i) (tCons te tNil)))) (he : ∀ σ H Q, tD φ W m f σ H Q → te σ H Q) (hi : i ∈ m := by decide) : PS X st (tSt φ W m m (sApp i f)) :=
  PS.imp h fun D σ H ⟨g, env, c, ig, rel, p⟩ => by
    unfold sApp at p
    cases hd : env.getD i none with
    | none => rw [hd] at p; exact p.elim
    | some d0 =>
    rw [hd] at p
    obtain ⟨ds, a, vs, rfl, h2, h3, h4, h5⟩ := rel.ow i d0 hi (getD_some hd)
    refine ⟨_, h2, .inl ⟨rfl, vs, .of h4⟩, he _ _ _ ⟨g, env, c, ig, rel, SPost.of rel p fun v H1 d c1 k cu t p1 => ?_⟩⟩
    have rel1 := rel.cu k cu
    have h4' := k.get a _ h4 fun z => absurd (rel.cup.O0 z) (rel.apart a h3)
    cases hr : room (ds.length + 1) with
    | false => rw [hr] at p1; exact p1.elim
    | true =>
      rw [hr] at p1
      have h5' : RpL g H1 ds vs := h5.keep k rel.cup.cu
      exact ⟨a, vs, v, rfl, rfl, h4', by rw [h5.length]; exact room_lt (k := 0) hr, p1 g σ _ (.put h3 h4') (rel1.put hi ⟨_, getD_some hd⟩ h2 h3 h4' (h5'.append (.one t)))⟩
/-- x.extend(e), e a new list -/
theorem ds_ext {i : Nat} {te : TE} (h : PS X st (tDrop (tBM X.K "list" rExtend (tVar i) (tCons te tNil)))) (he : ∀ σ H Q, tF φ W m f σ H Q → te σ H Q) (hi : i ∈ m := by decide) : PS X st (tSt φ W m m (sExt i f)) :=
  PS.imp h fun D σ H ⟨g, env, c, ig, rel, p⟩ => by
    unfold sExt at p
    cases hd : env.getD i none with
    | none => rw [hd] at p; exact p.elim
    | some d0 =>
    rw [hd] at p
    obtain ⟨ds, a, vs, rfl, h2, h3, h4, h5⟩ := rel.ow i d0 hi (getD_some hd)
    refine ⟨_, h2, .inl ⟨rfl, vs, .of h4⟩, he _ _ _ ⟨g, env, c, ig, rel, SPost.of (T := FrF g H) rel p fun v H1 d c1 k cu t p1 => ?_⟩⟩
    have rel1 := rel.cu k cu
    have h4' := k.get a _ h4 fun z => absurd (rel.cup.O0 z) (rel.apart a h3)
    obtain ⟨es, b, ws, rfl, rfl, n, hb, hrb⟩ := t
    cases hr : room (ds.length + es.length) with
    | false =>
      have p2 : SPost W g m D σ H1 (match room (ds.length + es.length) with | true => .ok (.nx (env.set i (some (.lst (ds ++ es))))) c1 | false => .bad) := p1
      rw [hr] at p2; exact p2.elim
    | true =>
      have p2 : SPost W g m D σ H1 (match room (ds.length + es.length) with | true => .ok (.nx (env.set i (some (.lst (ds ++ es))))) c1 | false => .bad) := p1
      rw [hr] at p2
      have h5' : RpL g H1 ds vs := h5.keep k rel.cup.cu
      have hrb' : RpL g H1 es ws := RpL.move (g := g.with b) (g' := g) (F := fun _ => False) .refl rfl rfl rfl (fun _ z => z.elim) (fun a z => .inl (Gh.of_with a z)) hrb
      exact ⟨a, b, vs, ws, rfl, rfl, h4', hb, by rw [h5.length, hrb.length]; exact room_of hr, p2 g σ _ (.put h3 h4') (rel1.put hi ⟨_, getD_some hd⟩ h2 h3 h4' (h5'.append hrb'))⟩
/-- x[k] = e -/
theorem ds_put {i : Nat} {fk : Ex} {te tk : TE} (h : PS X st (tAsg te (gSub (tVar i) tk rSetL))) (he : ∀ σ H Q, tD φ W m f σ H Q → te σ H Q) (hk : ∀ σ H Q, tD φ W m fk σ H Q → tk σ H Q) (hi : i ∈ m := by decide) : PS X st (tSt φ W m m (sPut i f fk)) :=
  PS.imp h fun D σ H ⟨g, env, c, ig, rel, p⟩ => he _ _ _ ⟨g, env, c, ig, rel, SPost.of rel p fun v H1 d c1 k cu t p1 => by
    have rel1 := rel.cu k cu
    cases hd : env.getD i none with
    | none => rw [hd] at p1; exact p1.elim
    | some d0 =>
    rw [hd] at p1
    obtain ⟨ds, a, vs, rfl, h2, h3, h4, h5⟩ := rel1.ow i d0 hi (getD_some hd)
    refine ⟨_, h2, hk _ _ _ ⟨g, env, c1, ig, rel1, SPost.of rel1 p1 fun w H2 d2 c2 k2 cu2 t2 p2 => ?_⟩⟩
    have rel2 := rel1.cu k2 cu2
    have h4' := k2.get a _ h4 fun z => absurd (rel1.cup.O0 z) (rel1.apart a h3)
    cases d2 with
    | int n =>
      have p3 : SPost W g m D σ H2 (match ixN ds.length n with | some j => .ok (.nx (env.set i (some (.lst (ds.set j d))))) c2 | none => .bad) := p2
      cases hj : ixN ds.length n with
      | none => rw [hj] at p3; exact p3.elim
      | some j =>
        rw [hj] at p3
        have h5' : RpL g H2 ds vs := h5.keep k2 rel1.cup.cu
        exact ⟨a, vs, n, j, rfl, t2, h4', by rw [h5.length]; exact hj, p3 g σ _ (.put h3 h4') (rel2.put hi ⟨_, getD_some hd⟩ h2 h3 h4' (RpL.set (t.keep k2 cu.cu) j h5'))⟩
    | _ => exact p2.elim⟩
/-! ### y = x, x an own list that is not used as such any more -/
def sMove (j i : Nat) : Sx := fun env c => match env.getD i none with
  | some d => .ok (.nx ((env.set i none).set j (some d))) c
  | none => .bad
theorem Rel.drop {g : Gh} {env : En} {c : C} {σ : L2.St} {H : Hp} {i : Nat} (r : Rel g m env c σ H) (hm : ∀ j, j ∈ m' → j ∈ m) (hm' : ∀ j, j ∈ m → j ≠ i → j ∈ m') : Rel g m' (env.set i none) c σ H := by
  have ne : ∀ {j : Nat} {d : D}, (env.set i none)[j]? = some (some d) → j ≠ i ∧ env[j]? = some (some d) := fun {j d} q => by
    by_cases h : i = j
    · subst h
      by_cases hl : i < env.length
      · rw [List.getElem?_set_self hl] at q; cases q
      · rw [List.getElem?_eq_none (by rw [List.length_set]; omega)] at q; cases q
    · rw [List.getElem?_set_ne h] at q
      exact ⟨Ne.symm h, q⟩
  refine ⟨r.trk, r.cup, r.apart, by rw [List.length_set]; exact r.len, fun j d n e => ?_, fun j d n e => ?_, fun j l e f w hj hl' hjl q1 q2 q3 => ?_⟩
  · obtain ⟨h1, h2⟩ := ne e
    by_cases hj : j ∈ m
    · exact absurd (hm' j hj h1) n
    · exact r.sh j d hj h2
  · obtain ⟨h1, h2⟩ := ne e
    exact r.ow j d (hm j n) h2
  · exact r.sep j l e f w (hm j hj) (hm l hl') hjl (ne q1).2 (ne q2).2 q3
def Gh.less (g : Gh) (a : Addr) : Gh := { g with F := fun b => g.F b ∧ b ≠ a }
theorem Gh.less_O {g : Gh} {a : Addr} : ∀ b, (g.less a).O b → g.O b := fun b z => z.imp id fun y => y.1
theorem Rel.less {g : Gh} {env : En} {c : C} {σ : L2.St} {H : Hp} {i : Nat} {d : D} {a : Addr} (r : Rel g m env c σ H) (hi : i ∈ m) (hd : env[i]? = some (some d)) (hσ : σ[i]? = some (some (.ref a))) (hm : ∀ j, j ∈ m' → j ∈ m ∧ j ≠ i) (hm' : ∀ j, j ∈ m → j ≠ i → j ∈ m') :
    Rel (g.less a) m' (env.set i none) c σ H := by
  have r1 := r.drop (m' := m') (i := i) (fun j h => (hm j h).1) hm'
  have ne : ∀ {j : Nat} {d : D}, (env.set i none)[j]? = some (some d) → j ≠ i ∧ env[j]? = some (some d) := fun {j d} q => by
    by_cases h : i = j
    · subst h
      by_cases hl : i < env.length
      · rw [List.getElem?_set_self hl] at q; cases q
      · rw [List.getElem?_eq_none (by rw [List.length_set]; omega)] at q; cases q
    · rw [List.getElem?_set_ne h] at q
      exact ⟨Ne.symm h, q⟩
  refine ⟨fun b z => r.trk b (Gh.less_O b z), r.cup, fun b z => r.apart b z.1, r1.len, fun j e n q => ?_, fun j e n q => ?_, r1.sep⟩
  · obtain ⟨v, h1, h2⟩ := r1.sh j e n q
    exact ⟨v, h1, h2.narrow rfl rfl rfl fun b z => .inl (Gh.less_O b z)⟩
  · obtain ⟨ds, b, vs, h1, h2, h3, h4, h5⟩ := r1.ow j e n q
    have nb : b ≠ a := fun z => by
      subst z
      exact r.sep j i e d _ (hm j n).1 hi (hm j n).2 (ne q).2 hd h2 hσ
    exact ⟨ds, b, vs, h1, h2, ⟨h3, nb⟩, h4, h5.narrow rfl rfl rfl fun b z => .inl (Gh.less_O b z)⟩
theorem Aft.less {g : Gh} {H : Hp} {a : Addr} : Aft g (g.less a) H H := ⟨⟨rfl, rfl, rfl, rfl, rfl, rfl, fun b h => .inl h.1⟩, .refl⟩
theorem ds_move {i j : Nat} (h : PS X st (tAsg (tVar i) (gName j))) (hi : i ∈ m := by decide) (hij : i ≠ j := by decide) (hj : j ∉ m' := by decide) (hm : ∀ j, j ∈ m' → j ∈ m ∧ j ≠ i := by decide) (hm' : ∀ j, j ∈ m → j ≠ i → j ∈ m' := by decide) : PS X st (tSt φ W m m' (sMove j i)) :=
  PS.imp h fun D σ H ⟨g, env, c, ig, rel, p⟩ => by
    unfold sMove at p
    cases hd : env.getD i none with
    | none => rw [hd] at p; exact p.elim
    | some d0 =>
    rw [hd] at p
    obtain ⟨ds, a, vs, rfl, h2, h3, h4, h5⟩ := rel.ow i d0 hi (getD_some hd)
    refine ⟨_, h2, p (g.less a) _ H .less ?_⟩
    exact (rel.less hi (getD_some hd) h2 hm hm').set hj ⟨a, vs, rfl, fun z => z.elim (rel.apart a h3) fun y => y.2 rfl, h4, h5.narrow rfl rfl rfl fun b z => .inl (Gh.less_O b z)⟩
/-- what is not used any more -/
def sForget (vs : List Nat) (s : Sx) : Sx := fun env c => match s env c with
  | .ok (.nx e) c1 => .ok (.nx (wipeE e vs)) c1
  | r => r
theorem dss_forget (vs : List Nat) (h : PSs X rest (tSt φ W m m' s)) : PSs X rest (tSt φ W m m' (sForget vs s)) :=
  PSs.imp h fun D σ H ⟨g, env, c, ig, rel, p⟩ => ⟨g, env, c, ig, rel, by
    unfold sForget at p
    cases q : s env c with
    | ok f c1 =>
      rw [q] at p
      cases f with
      | nx e => exact fun g' σ' H' a rel' => p g' σ' H' a (rel'.wipeL vs)
      | rt d => exact p
    | exc k c1 => rw [q] at p; exact p
    | bad => rw [q] at p; exact p⟩
/-! ### for, while -/
def forGo (b : Bd) (s : Sx) : List D → Sx
  | [], env, c => .ok (.nx env) c
  | d :: ds, env, c => match b d env with
    | none => .bad
    | some e1 => (s e1 c).bind fun f c1 => match f with
      | .nx e2 => forGo b s ds e2 c1
      | .rt d => .ok (.rt d) c1
/-- vs is forgotten behind each turn -/
def sFor (it : Exs) (b : Bd) (s : Sx) : Sx := fun env c => (it env c).bind fun ds c1 => forGo b s ds env c1
theorem for_run {vs : List Nat} {is : Exs} {b : Bd} {D : Ends} {σ : L2.St} {H : Hp} (h : tSt φ W m m (sFor is b s) D σ H) : tFor (tI φ W m is) (tGd φ m vs b) (tSt φ W m m s) D σ H := by
  obtain ⟨g, env, c, ig, rel, p⟩ := h
  refine ⟨g, env, c, ig, rel, SPost.of (T := fun H' ds J => DW g g.Ch J ds H') rel p fun J H1 ds c1 k1 cu1 wk p1 => ?_⟩
  have rel1 := rel.cu k1 cu1
  refine for_it wk (fun i σ2 H2 => ∃ g2 env2 c2, Aft g g2 H1 H2 ∧ Rel g2 m env2 c2 σ2 H2 ∧ SPost W g2 m D σ2 H2 (forGo b s (ds.drop i) env2 c2)) ⟨g, env, c1, .refl, rel1, by rw [List.drop_zero]; exact p1⟩ (fun i σ2 H2 _ ⟨g2, env2, c2, a, _⟩ => a.keep) ?_ ?_
  · rintro i x σ2 H2 H3 hi ⟨g2, env2, c2, a, rel2, p2⟩ ⟨k3, d, hd, rd⟩
    have hdrop : ds.drop i = d :: ds.drop (i + 1) := by
      obtain ⟨h1, h2⟩ := List.getElem?_eq_some_iff.mp hd
      rw [List.drop_eq_getElem_cons h1, h2]
    rw [hdrop] at p2
    have cu3 : CupAt g2 c2 H3 := rel2.cup.sam k3
    have rel3 := rel2.cu k3.keep cu3
    have a23 : Aft g2 g2 H2 H3 := .cu rel2.cup cu3 k3.keep
    have p3 : SPost W g2 m D σ2 H3 (forGo b s (d :: ds.drop (i + 1)) env2 c2) := p2.after a23
    unfold forGo at p3
    cases hb : b d env2 with
    | none => rw [hb] at p3; exact p3.elim
    | some e1 =>
    rw [hb] at p3
    dsimp only at p3
    have rd3 : Rp g2 H3 d x := rd g2 a.ext.K a.ext.fa a.ext.ca fun b z => z.elim (fun y => .inl (.inl (by rw [← a.ext.O0]; exact y))) fun y => (a.ext.new b y).imp .inr id
    refine ⟨g2, env2, c2, d, a.ext.is ig, rel3, rd3, e1, hb, fun σ4 rel4 hw => ⟨g2, e1, c2, a.ext.is ig, rel4, ?_⟩⟩
    cases hs : s e1 c2 with
    | bad => rw [hs] at p3; exact p3.elim
    | exc k c3 => rw [hs] at p3; exact p3
    | ok f c3 =>
      rw [hs] at p3
      cases f with
      | rt d => exact p3
      | nx e2 =>
        intro g5 σ5 H5 a5 rel5
        exact ⟨g5, e2, c3, (a.trans a23).trans a5, rel5, SPost.after p3 a5⟩
  · rintro σ2 H2 ⟨g2, env2, c2, a, rel2, p2⟩
    rw [List.drop_length] at p2
    exact p2 g2 σ2 H2 .refl rel2
theorem ds_for {iter tg : Expr} {body : List Stmt} {vs : List Nat} {is : Exs} {b : Bd} (hi : PI X tg iter (tI φ W m is)) (hg : PG X tg (tGd φ m vs b)) (hb : PSs X body (tSt φ W m m s)) (hp : PassesOwn (model X.prog X.w) X.A X.env X.xe) (hc : X.calm = true := by rfl)
    (hs : ∀ x, foldedSetIterable iter X.env x = pure x := by intro _; rfl) : PS X (.For tg iter body [] pos) (tSt φ W m m (sFor is b s)) :=
  PS.imp (ps_for hp hc hi hg hb hs) fun D σ H h => for_run h
def whGo (t : En → C → R Bool) (s : Sx) : Nat → Sx
  | 0, _, _ => .bad
  | n + 1, env, c => (t env c).bind fun b c1 => match b with
    | false => .ok (.nx env) c1
    | true => (s env c1).bind fun f c2 => match f with
      | .nx e => whGo t s n e c2
      | .rt d => .ok (.rt d) c2
theorem while_run {tc : En → C → R Bool} {n : Nat} {D : Ends} {σ : L2.St} {H : Hp} (h : tSt φ W m m (whGo tc s n) D σ H) : tWhile (tT φ W m tc) (tSt φ W m m s) D σ H := by
  obtain ⟨g, env, c, ig, rel, p⟩ := h
  refine ⟨fun n σ H => ∃ g env c, g.is φ ∧ Rel g m env c σ H ∧ SPost W g m D σ H (whGo tc s n env c), ⟨n, g, env, c, ig, rel, p⟩, ?_⟩
  rintro n σ H ⟨g, env, c, ig, rel, p⟩
  cases n with
  | zero => exact p.elim
  | succ n =>
  unfold whGo at p
  refine ⟨g, env, c, ig, rel, SPost.of (T := RpE g) rel p fun b H1 b' c1 k cu t p1 => ?_⟩
  cases t
  have rel1 := rel.cu k cu
  cases b with
  | false => rw [if_neg Bool.false_ne_true]; exact p1 g σ H1 .refl rel1
  | true =>
  rw [if_pos rfl]
  refine ⟨fun σ H => ∃ g env c, g.is φ ∧ Rel g m env c σ H ∧ SPost W g m D σ H (whGo tc s n env c), fun σ' H' q => ⟨n, Nat.lt_succ_self n, q⟩, g, env, c1, ig, rel1, ?_⟩
  have p2 : SPost W g m D σ H1 ((s env c1).bind fun f c2 => match f with | .nx e => whGo tc s n e c2 | .rt d => .ok (.rt d) c2) := p1
  cases hs : s env c1 with
  | bad => rw [hs] at p2; exact p2.elim
  | exc k c3 => rw [hs] at p2; exact p2
  | ok f c3 =>
    rw [hs] at p2
    cases f with
    | rt d => exact p2
    | nx e2 =>
      intro g5 σ5 H5 a5 rel5
      exact ⟨g5, e2, c3, a5.ext.is ig, rel5, SPost.after p2 a5⟩
theorem ds_while {c : Expr} {body : List Stmt} {tc : En → C → R Bool} (n : Nat) (hc : PT X c (tT φ W m tc)) (hb : PSs X body (tSt φ W m m s)) (hp : PassesOwn (model X.prog X.w) X.A X.env X.xe) : PS X (.While c body [] pos) (tSt φ W m m (whGo tc s n)) :=
  PS.imp (ps_while hp hc hb) fun D σ H h => while_run h
end
end DL

namespace DL
open PySem PySem.Spec PyProof.Rows L2

theorem OpR.or {X : Cx} {f : Value → Value → Sem Value} {r r' : R2} (h : OpR X f r) (h' : OpR X f r') : OpR X f fun x y H Q => r x y H Q ∨ r' x y H Q :=
  fun pins s σ H x y v u Q I rx ry q => q.elim (h pins s σ H x y v u Q I rx ry) (h' pins s σ H x y v u Q I rx ry)
theorem OpR.imp {X : Cx} {f : Value → Value → Sem Value} {r r' : R2} (h : OpR X f r) (i : ∀ x y H Q, r' x y H Q → r x y H Q) : OpR X f r' :=
  fun pins s σ H x y v u Q I rx ry q => h pins s σ H x y v u Q I rx ry (i _ _ _ _ q)

/-! ### whole numbers -/
def mulOk (a b : Int) : Bool := (decide (-(2 ^ 64) < a) && decide (a < 2 ^ 64)) || (decide (-(2 ^ 64) < b) && decide (b < 2 ^ 64)) || decide (a.natAbs.log2 + b.natAbs.log2 < 1000000)
theorem mulOk_l {a b : Int} (h : -(2 ^ 64) < a) (h' : a < 2 ^ 64) : mulOk a b = true := by rw [mulOk, decide_eq_true h, decide_eq_true h']; rfl
theorem mulOk_r {a b : Int} (h : -(2 ^ 64) < b) (h' : b < 2 ^ 64) : mulOk a b = true := by rw [mulOk, decide_eq_true h, decide_eq_true h', Bool.and_self, Bool.or_true, Bool.true_or]
def dInt2 (f : Int → Int → Option D) : D → D → Option D
  | .int a, .int b => f a b
  | _, _ => none
def iMul (a b : Int) : Option D := match mulOk a b with
  | true => some (.int (a * b))
  | false => none
def iDiv (a b : Int) : Option D := match decide (0 < b ∧ b.natAbs.log2 < 9000) with
  | true => some (.int (a / b))
  | false => none
def iMod (a b : Int) : Option D := match decide (0 < b) with
  | true => some (.int (a % b))
  | false => none
def iPow (a b : Int) : Option D := match decide (0 ≤ b ∧ b ≤ 1000000 ∧ a.natAbs < 2 ^ 64) with
  | true => some (.int (a ^ b.toNat))
  | false => none
def iShl (a b : Int) : Option D := match decide (0 ≤ b ∧ b ≤ 1000000 ∧ a.natAbs < 2 ^ 64) with
  | true => some (.int (a * 2 ^ b.toNat))
  | false => none
def iShr (a b : Int) : Option D := match decide (0 ≤ b) with
  | true => some (.int (a / 2 ^ b.toNat))
  | false => none
theorem o2_int {φ : Fx} {C : Int → Int → Prop} {g : Int → Int → V} {f : Int → Int → Option D} (h : ∀ a b d, f a b = some d → C a b ∧ ∀ (g' : Gh) H, Rp g' H d (g a b)) : Op2 φ (rI C g) (dInt2 f) := fun W g' σ H c x y d e Q ig cu tr h1 h2 p => by
  cases d with
  | int a =>
    cases e with
    | int b =>
      have p' : Post W g' (Rp g') σ H (ofO (f a b) c) Q := p
      cases q : f a b with
      | none => rw [q] at p'; exact p'.elim
      | some d => rw [q] at p'; exact ⟨a, b, h1, h2, (h a b d q).1, p'.val cu ((h a b d q).2 g' H)⟩
    | _ => exact p.elim
  | _ => cases e <;> exact p.elim
theorem o2_int0 {φ : Fx} {g : Int → Int → V} {f : Int → Int → D} (h : ∀ a b, ∀ (g' : Gh) H, Rp g' H (f a b) (g a b)) : Op2 φ (rI0 g) (dInt2 fun a b => some (f a b)) := fun W g' σ H c x y d e Q ig cu tr h1 h2 p => by
  cases d with
  | int a =>
    cases e with
    | int b => exact ⟨a, b, h1, h2, p.val cu (h a b g' H)⟩
    | _ => exact p.elim
  | _ => cases e <;> exact p.elim
theorem o_mul {φ : Fx} : Op2 φ (rI (fun i j => IntMulOk i j) fun i j => .int (i * j)) (dInt2 iMul) := o2_int fun a b d q => by
  unfold iMul at q
  cases h : mulOk a b with
  | false => rw [h] at q; cases q
  | true =>
    rw [h] at q; cases q
    refine ⟨?_, fun _ _ => rfl⟩
    simp only [mulOk, Bool.or_eq_true, Bool.and_eq_true, decide_eq_true_eq] at h
    rcases h with (h | h) | h
    · exact L2.CMul.ok (.inl h)
    · exact L2.CMul.ok (.inr h)
    · exact L2.CMulW.ok h
theorem op_mulA {X : Cx} : OpR X (binaryOp .Mult) (rI (fun i j => IntMulOk i j) fun i j => .int (i * j)) := opI fun _ _ _ _ _ _ _ hc q => mul_int q hc
theorem o_add {φ : Fx} : Op2 φ (rI0 fun i j => .int (i + j)) (dInt2 fun a b => some (.int (a + b))) := o2_int0 fun _ _ _ _ => rfl
theorem o_sub {φ : Fx} : Op2 φ (rI0 fun i j => .int (i - j)) (dInt2 fun a b => some (.int (a - b))) := o2_int0 fun _ _ _ _ => rfl
theorem o_div {φ : Fx} : Op2 φ (rI CDivW fun i j => .int (i / j)) (dInt2 iDiv) := o2_int fun a b d q => by
  unfold iDiv at q
  by_cases h : 0 < b ∧ b.natAbs.log2 < 9000
  · rw [decide_eq_true h] at q; cases q; exact ⟨h, fun _ _ => rfl⟩
  · rw [decide_eq_false h] at q; cases q
theorem o_mod {φ : Fx} : Op2 φ (rI (fun _ j => 0 < j) fun i j => .int (i % j)) (dInt2 iMod) := o2_int fun a b d q => by
  unfold iMod at q
  by_cases h : 0 < b
  · rw [decide_eq_true h] at q; cases q; exact ⟨h, fun _ _ => rfl⟩
  · rw [decide_eq_false h] at q; cases q
theorem o_pow {φ : Fx} : Op2 φ (rI CPow fun i j => .int (i ^ j.toNat)) (dInt2 iPow) := o2_int fun a b d q => by
  unfold iPow at q
  by_cases h : 0 ≤ b ∧ b ≤ 1000000 ∧ a.natAbs < 2 ^ 64
  · rw [decide_eq_true h] at q; cases q; exact ⟨h, fun _ _ => rfl⟩
  · rw [decide_eq_false h] at q; cases q
theorem o_shl {φ : Fx} : Op2 φ (rI CPow fun i j => .int (i * 2 ^ j.toNat)) (dInt2 iShl) := o2_int fun a b d q => by
  unfold iShl at q
  by_cases h : 0 ≤ b ∧ b ≤ 1000000 ∧ a.natAbs < 2 ^ 64
  · rw [decide_eq_true h] at q; cases q; exact ⟨h, fun _ _ => rfl⟩
  · rw [decide_eq_false h] at q; cases q
theorem o_shr {φ : Fx} : Op2 φ (rI (fun _ j => 0 ≤ j) fun i j => .int (i / 2 ^ j.toNat)) (dInt2 iShr) := o2_int fun a b d q => by
  unfold iShr at q
  by_cases h : 0 ≤ b
  · rw [decide_eq_true h] at q; cases q; exact ⟨h, fun _ _ => rfl⟩
  · rw [decide_eq_false h] at q; cases q
theorem o_lt {φ : Fx} : Op2 φ (rI0 fun i j => .bl (decide (i < j))) (dInt2 fun a b => some (.bl (decide (a < b)))) := o2_int0 fun _ _ _ _ => rfl
theorem o_le {φ : Fx} : Op2 φ (rI0 fun i j => .bl (decide (i ≤ j))) (dInt2 fun a b => some (.bl (decide (a ≤ b)))) := o2_int0 fun _ _ _ _ => rfl
theorem o_gt {φ : Fx} : Op2 φ (rI0 fun i j => .bl (decide (j < i))) (dInt2 fun a b => some (.bl (decide (b < a)))) := o2_int0 fun _ _ _ _ => rfl
theorem o_ge {φ : Fx} : Op2 φ (rI0 fun i j => .bl (decide (j ≤ i))) (dInt2 fun a b => some (.bl (decide (b ≤ a)))) := o2_int0 fun _ _ _ _ => rfl
def dNeg : D → Option D
  | .int a => some (.int (-a))
  | _ => none
theorem o_neg {φ : Fx} : Op1 φ (rU fun i => .int (-i)) dNeg := fun W g σ H c x d Q ig cu tr h p => by
  cases d with
  | int a => exact ⟨a, h, p.val cu rfl⟩
  | _ => exact p.elim
def dAbs : D → Option D
  | .int a => some (.int (if a < 0 then -a else a))
  | _ => none
theorem o_abs {φ : Fx} : Op1 φ (fun x H Q => ∃ i, [x] = [.int i] ∧ Q (.int (if i < 0 then -i else i)) H) dAbs := fun W g σ H c x d Q ig cu tr h p => by
  cases d with
  | int a => exact ⟨a, by rw [show x = .int a from h], p.val cu rfl⟩
  | _ => exact p.elim
def dToInt : D → Option D
  | .int a => some (.int a)
  | _ => none
theorem o_toInt {φ : Fx} : Op1 φ (fun x H Q => (∃ i, [x] = [.int i] ∧ Q (.int i) H) ∨ ∃ k, [x] = [.bl k] ∧ Q (.int (if k then 1 else 0)) H) dToInt := fun W g σ H c x d Q ig cu tr h p => by
  cases d with
  | int a => exact .inl ⟨a, by rw [show x = .int a from h], p.val cu rfl⟩
  | _ => exact p.elim
theorem o_max2 {φ : Fx} : Op2 φ (fun x y H Q => ∃ i j, [x, y] = [.int i, .int j] ∧ Q (.int (if j > i then j else i)) H) (dInt2 fun i j => some (.int (if j > i then j else i))) := fun W g σ H c x y d e Q ig cu tr h h' p => by
  cases d with
  | int a =>
    cases e with
    | int b => exact ⟨a, b, by rw [show x = .int a from h, show y = .int b from h'], p.val cu rfl⟩
    | _ => exact p.elim
  | _ => cases e <;> exact p.elim
theorem o_min2 {φ : Fx} : Op2 φ (fun x y H Q => ∃ i j, [x, y] = [.int i, .int j] ∧ Q (.int (if j < i then j else i)) H) (dInt2 fun i j => some (.int (if j < i then j else i))) := fun W g σ H c x y d e Q ig cu tr h h' p => by
  cases d with
  | int a =>
    cases e with
    | int b => exact ⟨a, b, by rw [show x = .int a from h, show y = .int b from h'], p.val cu rfl⟩
    | _ => exact p.elim
  | _ => cases e <;> exact p.elim

/-! ### + and * of sequences -/
def dCat : D → D → Option D
  | .lst a, .lst b => match room (a.length + b.length) with
    | true => some (.lst (a ++ b))
    | false => none
  | .tup a, .tup b => match room (a.length + b.length) with
    | true => some (.tup (a ++ b))
    | false => none
  | .int a, .int b => some (.int (a + b))
  | _, _ => none
theorem rpl_new {g : Gh} {H : Hp} {p : Addr} {o : HO} {ds : List D} {vs : List V} (n : H p = none) (h : RpL g H ds vs) : RpL g (L2.upd H p o) ds vs := h.keep (.new (F := fun _ => False) n) fun _ z => z.elim
theorem new_lst {g : Gh} {H : Hp} {p : Addr} {ds : List D} {vs : List V} (tr : ∀ a, g.O a → H a ≠ none) (n : H p = none) (h : RpL g H ds vs) : Rp g (L2.upd H p (.lst vs)) (.lst ds) (.ref p) := ⟨p, vs, rfl, fun z => tr p z n, upd_same, rpl_new n h⟩
theorem new_tup {g : Gh} {H : Hp} {p : Addr} {ds : List D} {vs : List V} {o : Obj} (n : H p = none) (ho : o.dict = none) (h : RpL g H ds vs) : Rp g (upT H p o vs) (.tup ds) (.ref p) := ⟨p, vs, rfl, .new ho, rpl_new n h⟩
theorem o_cat {φ : Fx} : Op2 φ (fun x y H Q => (rCat x y H Q ∨ rCatN φ.K x y H Q) ∨ rI0 (fun i j => .int (i + j)) x y H Q) dCat := fun W g σ H c x y d e Q ig cu tr h h' p => by
  cases d with
  | lst ds =>
    cases e with
    | lst es =>
      obtain ⟨a, vs, rfl, _, hs, hr⟩ := h
      obtain ⟨b, ws, rfl, _, hs', hr'⟩ := h'
      have p' : Post W g (Rp g) σ H (ofO (match room (ds.length + es.length) with | true => some (.lst (ds ++ es)) | false => none) c) Q := p
      cases q : room (ds.length + es.length) with
      | false => rw [q] at p'; exact p'.elim
      | true =>
        rw [q] at p'
        exact .inl (.inl ⟨a, b, vs, ws, rfl, rfl, hs, hs', by rw [hr.length, hr'.length]; exact room_of q, fun r n => p'.new cu n (new_lst tr n (hr.append hr'))⟩)
    | _ => exact p.elim
  | tup ds =>
    cases e with
    | tup es =>
      obtain ⟨a, vs, rfl, hs, hr⟩ := h
      obtain ⟨b, ws, rfl, hs', hr'⟩ := h'
      have p' : Post W g (Rp g) σ H (ofO (match room (ds.length + es.length) with | true => some (.tup (ds ++ es)) | false => none) c) Q := p
      cases q : room (ds.length + es.length) with
      | false => rw [q] at p'; exact p'.elim
      | true =>
        rw [q] at p'
        have l1 := hr.length
        have l2 := hr'.length
        refine .inl (.inr ⟨a, b, vs, ws, rfl, rfl, hs.t, hs'.t, by rw [l1, l2]; exact room_of q, fun z => ?_, fun z z' => ?_, fun r o n ho => p'.new cu n (new_tup n ho (hr.append hr'))⟩)
        · subst z
          have : ds = [] := List.length_eq_zero_iff.mp l1.symm
          subst this
          exact p'.val cu ⟨b, ws, rfl, hs', hr'⟩
        · subst z'
          have : es = [] := List.length_eq_zero_iff.mp l2.symm
          subst this
          exact p'.val cu ⟨a, vs, rfl, hs, by rw [List.append_nil]; exact hr⟩
    | _ => exact p.elim
  | int a =>
    cases e with
    | int b => exact .inr ⟨a, b, h, h', p.val cu rfl⟩
    | _ => exact p.elim
  | _ => cases e <;> exact p.elim
theorem op_catAll {X : Cx} : OpR X (binaryOp .Add) (fun x y H Q => (rCat x y H Q ∨ rCatN X.K x y H Q) ∨ rI0 (fun i j => .int (i + j)) x y H Q) := OpR.or (OpR.or op_cat op_catN) op_add

/-! ### items, slices, lengths -/
def dIx : D → D → Option D
  | .lst ds, .int i => atI ds i
  | .tup ds, .int i => atI ds i
  | _, _ => none
theorem atI_rp {g : Gh} {H : Hp} {ds : List D} {vs : List V} {i : Int} {d : D} (r : RpL g H ds vs) (h : atI ds i = some d) : ∃ v, atI vs i = some v ∧ Rp g H d v := by
  unfold atI at h ⊢
  rw [r.length]
  cases q : ixN ds.length i with
  | none => rw [q] at h; cases h
  | some j =>
    rw [q] at h
    exact r.get (by exact h)
theorem o_ix {φ : Fx} : Op2 φ (rIx φ.K) dIx := fun W g σ H c x y d e Q ig cu tr h h' p => by
  cases d with
  | lst ds =>
    cases e with
    | int i =>
      obtain ⟨a, vs, rfl, _, hs, hr⟩ := h
      have p' : Post W g (Rp g) σ H (ofO (atI ds i) c) Q := p
      cases q : atI ds i with
      | none => rw [q] at p'; exact p'.elim
      | some d =>
        rw [q] at p'
        obtain ⟨v, h1, h2⟩ := atI_rp hr q
        exact .inl ⟨a, vs, i, v, rfl, h', .of hs, h1, p'.val cu h2⟩
    | _ => exact p.elim
  | tup ds =>
    cases e with
    | int i =>
      obtain ⟨a, vs, rfl, hs, hr⟩ := h
      have p' : Post W g (Rp g) σ H (ofO (atI ds i) c) Q := p
      cases q : atI ds i with
      | none => rw [q] at p'; exact p'.elim
      | some d =>
        rw [q] at p'
        obtain ⟨v, h1, h2⟩ := atI_rp hr q
        exact .inr (.inl ⟨a, vs, i, v, rfl, h', hs.t, h1, p'.val cu h2⟩)
    | _ => exact p.elim
  | _ => cases e <;> exact p.elim
def cutD (ds : List D) (lo hi : Option Int) : List D := (ds.drop (HT.sIx ds.length 0 lo)).take (HT.sIx ds.length ds.length hi - HT.sIx ds.length 0 lo)
theorem RpL.cut {g : Gh} {H : Hp} {ds : List D} {vs : List V} (r : RpL g H ds vs) (lo hi : Option Int) : RpL g H (cutD ds lo hi) (cutV vs lo hi) := by
  unfold cutD cutV
  rw [r.length]
  exact (r.drop _).take _
def dSl : D → Option Int → Option Int → Option D
  | .lst ds, lo, hi => some (.lst (cutD ds lo hi))
  | .tup ds, lo, hi => some (.tup (cutD ds lo hi))
  | _, _, _ => none
theorem o_sl {φ : Fx} : OpSl φ (fun x lo hi H Q => rSlL φ.K x lo hi H Q ∨ rSlN φ.K x lo hi H Q) dSl := fun W g σ H c x d lo hi Q ig cu tr h p => by
  cases d with
  | lst ds =>
    obtain ⟨a, vs, rfl, _, hs, hr⟩ := h
    exact .inl ⟨a, vs, rfl, .of hs, fun q n => p.new cu n (new_lst tr n (hr.cut lo hi))⟩
  | tup ds =>
    obtain ⟨a, vs, rfl, hs, hr⟩ := h
    refine .inr ⟨a, vs, rfl, hs.t, fun z => p.val cu ⟨a, vs, rfl, hs, ?_⟩, fun q o n ho => p.new cu n (new_tup n ho (hr.cut lo hi))⟩
    have e : cutD ds lo hi = ds := by
      unfold cutD
      rw [hr.length] at z
      rw [z.1, z.2]
      simp
    rw [e]; exact hr
  | _ => exact p.elim
theorem sl_all {X : Cx} : SlR X (fun x lo hi H Q => rSlL X.K x lo hi H Q ∨ rSlN X.K x lo hi H Q) := SlR.or sl_list sl_tupN
def dLen : D → Option D
  | .lst ds => some (.int ds.length)
  | .tup ds => some (.int ds.length)
  | _ => none
theorem o_len {φ : Fx} : Op1 φ (fun x H Q => ∃ p ys, [x] = [V.ref p] ∧ (SqL φ.K H p ys ∨ SqT φ.K H p ys) ∧ Q (.int ys.length) H) dLen := fun W g σ H c x d Q ig cu tr h p => by
  cases d with
  | lst ds =>
    obtain ⟨a, vs, rfl, _, hs, hr⟩ := h
    exact ⟨a, vs, rfl, .inl (.of hs), p.val cu (by rw [hr.length]; rfl)⟩
  | tup ds =>
    obtain ⟨a, vs, rfl, hs, hr⟩ := h
    exact ⟨a, vs, rfl, .inr hs.t, p.val cu (by rw [hr.length]; rfl)⟩
  | _ => exact p.elim
def dTuple : D → Option D
  | .lst ds => some (.tup ds)
  | .tup ds => some (.tup ds)
  | _ => none
theorem o_tuple {φ : Fx} : Op1 φ (fun x => rTupN φ.K [x]) dTuple := fun W g σ H c x d Q ig cu tr h p => by
  cases d with
  | lst ds =>
    obtain ⟨a, vs, rfl, _, hs, hr⟩ := h
    exact ⟨a, vs, rfl, .inl ⟨.of hs, fun q o n ho => p.new cu n (new_tup n ho hr)⟩⟩
  | tup ds =>
    obtain ⟨a, vs, rfl, hs, hr⟩ := h
    exact ⟨a, vs, rfl, .inr ⟨hs.t, p.val cu ⟨a, vs, rfl, hs, hr⟩⟩⟩
  | _ => exact p.elim
def dList : D → Option D
  | .scr ns => some (.lst (ns.map D.int))
  | .lst ds => some (.lst ds)
  | .tup ds => some (.lst ds)
  | _ => none
theorem rpl_ints {g : Gh} {H : Hp} : ∀ ns : List Int, RpL g H (ns.map D.int) (ns.map V.int)
  | [] => rfl
  | n :: ns => ⟨.int n, ns.map V.int, rfl, rfl, rpl_ints ns⟩
theorem Scr.sq {K : PySem.W.Frag} {H : Hp} {a : Addr} {ns : List Int} (h : Scr K H a ns) : SqL K H a (ns.map V.int) := h.imp (fun ⟨o, z⟩ => .inr ⟨o, z⟩) id
theorem o_list {φ : Fx} : Op1 φ (fun x H Q => ∃ p ys, [x] = [V.ref p] ∧ (SqL φ.K H p ys ∨ SqT φ.K H p ys) ∧ ∀ l, H l = none → Q (.ref l) (L2.upd H l (.lst ys))) dList := fun W g σ H c x d Q ig cu tr h p => by
  cases d with
  | lst ds =>
    obtain ⟨a, vs, rfl, _, hs, hr⟩ := h
    exact ⟨a, vs, rfl, .inl (.of hs), fun q n => p.new cu n (new_lst tr n hr)⟩
  | tup ds =>
    obtain ⟨a, vs, rfl, hs, hr⟩ := h
    exact ⟨a, vs, rfl, .inr hs.t, fun q n => p.new cu n (new_lst tr n hr)⟩
  | scr ns =>
    obtain ⟨a, rfl, hs⟩ := h
    exact ⟨a, ns.map V.int, rfl, .inl (ig.1 ▸ hs.sq), fun q n => p.new cu n (new_lst tr n (rpl_ints ns))⟩
  | _ => exact p.elim

/-! ### sums, least and greatest, all and any -/
def dInts : List D → Option (List Int)
  | [] => some []
  | .int n :: ds => (dInts ds).map (n :: ·)
  | _ :: _ => none
theorem dInts_some : ∀ {ds : List D} {ns : List Int}, dInts ds = some ns → ds = ns.map D.int
  | [], _, h => by cases h; rfl
  | .int n :: ds, ns, h => by
    unfold dInts at h
    cases q : dInts ds with
    | none => rw [q] at h; cases h
    | some ms => rw [q] at h; cases h; rw [dInts_some q]; rfl
  | .non :: _, _, h => by cases h
  | .bl _ :: _, _, h => by cases h
  | .str _ :: _, _, h => by cases h
  | .tup _ :: _, _, h => by cases h
  | .raw _ :: _, _, h => by cases h
  | .dct _ _ :: _, _, h => by cases h
  | .lst _ :: _, _, h => by cases h
  | .fn _ :: _, _, h => by cases h
  | .cup :: _, _, h => by cases h
  | .scr _ :: _, _, h => by cases h
@[simp] theorem dInts_map (ns : List Int) : dInts (ns.map D.int) = some ns := by
  induction ns with
  | nil => rfl
  | cons n ns ih => simp [dInts, ih]
def dBls : List D → Option (List Bool)
  | [] => some []
  | .bl n :: ds => (dBls ds).map (n :: ·)
  | _ :: _ => none
theorem dBls_some : ∀ {ds : List D} {ns : List Bool}, dBls ds = some ns → ds = ns.map D.bl
  | [], _, h => by cases h; rfl
  | .bl n :: ds, ns, h => by
    unfold dBls at h
    cases q : dBls ds with
    | none => rw [q] at h; cases h
    | some ms => rw [q] at h; cases h; rw [dBls_some q]; rfl
  | .non :: _, _, h => by cases h
  | .int _ :: _, _, h => by cases h
  | .str _ :: _, _, h => by cases h
  | .tup _ :: _, _, h => by cases h
  | .raw _ :: _, _, h => by cases h
  | .dct _ _ :: _, _, h => by cases h
  | .lst _ :: _, _, h => by cases h
  | .fn _ :: _, _, h => by cases h
  | .cup :: _, _, h => by cases h
  | .scr _ :: _, _, h => by cases h
@[simp] theorem dBls_map (ns : List Bool) : dBls (ns.map D.bl) = some ns := by
  induction ns with
  | nil => rfl
  | cons n ns ih => simp [dBls, ih]
def dSum : D → Option D
  | .lst ds => (dInts ds).map fun ns => .int ns.sum
  | _ => none
theorem o_sum {φ : Fx} : Op1 φ (fun x => rSum φ.K [x]) dSum := fun W g σ H c x d Q ig cu tr h p => by
  cases d with
  | lst ds =>
    obtain ⟨a, vs, rfl, _, hs, hr⟩ := h
    have p' : Post W g (Rp g) σ H (ofO ((dInts ds).map fun ns => .int ns.sum) c) Q := p
    cases q : dInts ds with
    | none => rw [q] at p'; exact p'.elim
    | some ns =>
      rw [q] at p'
      have e := dInts_some q
      subst e
      exact ⟨a, ns, rfl, hr.ints ▸ .of hs, p'.val cu rfl⟩
  | _ => exact p.elim
def dAll : D → Option D
  | .lst ds => (dBls ds).map fun bs => .bl (bs.all id)
  | _ => none
def dAny : D → Option D
  | .lst ds => (dBls ds).map fun bs => .bl (bs.any id)
  | _ => none
theorem o_all {φ : Fx} : Op1 φ (fun x => rAll φ.K [x]) dAll := fun W g σ H c x d Q ig cu tr h p => by
  cases d with
  | lst ds =>
    obtain ⟨a, vs, rfl, _, hs, hr⟩ := h
    have p' : Post W g (Rp g) σ H (ofO ((dBls ds).map fun bs => .bl (bs.all id)) c) Q := p
    cases q : dBls ds with
    | none => rw [q] at p'; exact p'.elim
    | some ns =>
      rw [q] at p'
      have e := dBls_some q
      subst e
      exact ⟨a, ns, rfl, hr.bls ▸ .of hs, p'.val cu rfl⟩
  | _ => exact p.elim
theorem o_any {φ : Fx} : Op1 φ (fun x => rAny φ.K [x]) dAny := fun W g σ H c x d Q ig cu tr h p => by
  cases d with
  | lst ds =>
    obtain ⟨a, vs, rfl, _, hs, hr⟩ := h
    have p' : Post W g (Rp g) σ H (ofO ((dBls ds).map fun bs => .bl (bs.any id)) c) Q := p
    cases q : dBls ds with
    | none => rw [q] at p'; exact p'.elim
    | some ns =>
      rw [q] at p'
      have e := dBls_some q
      subst e
      exact ⟨a, ns, rfl, hr.bls ▸ .of hs, p'.val cu rfl⟩
  | _ => exact p.elim
def maxL : Int → List Int → Int
  | m, [] => m
  | m, n :: ns => maxL (if n > m then n else m) ns
def minL : Int → List Int → Int
  | m, [] => m
  | m, n :: ns => minL (if n < m then n else m) ns
theorem maxL_spec : ∀ (ns : List Int) (m : Int), maxL m ns ∈ m :: ns ∧ ∀ y ∈ m :: ns, y ≤ maxL m ns
  | [], m => ⟨by simp [maxL], by simp [maxL]⟩
  | n :: ns, m => by
    have ih := maxL_spec ns (if n > m then n else m)
    unfold maxL
    refine ⟨?_, fun y hy => ?_⟩
    · rcases List.mem_cons.mp ih.1 with h | h
      · rw [h]; split <;> simp
      · simp [h]
    · have h0 := ih.2 _ List.mem_cons_self
      rcases List.mem_cons.mp hy with h | h
      · subst h; split at h0 <;> (split <;> omega)
      · rcases List.mem_cons.mp h with h | h
        · subst h; split at h0 <;> (split <;> omega)
        · exact ih.2 y (List.mem_cons_of_mem _ h)
theorem minL_spec : ∀ (ns : List Int) (m : Int), minL m ns ∈ m :: ns ∧ ∀ y ∈ m :: ns, minL m ns ≤ y
  | [], m => ⟨by simp [minL], by simp [minL]⟩
  | n :: ns, m => by
    have ih := minL_spec ns (if n < m then n else m)
    unfold minL
    refine ⟨?_, fun y hy => ?_⟩
    · rcases List.mem_cons.mp ih.1 with h | h
      · rw [h]; split <;> simp
      · simp [h]
    · have h0 := ih.2 _ List.mem_cons_self
      rcases List.mem_cons.mp hy with h | h
      · subst h; split at h0 <;> (split <;> omega)
      · rcases List.mem_cons.mp h with h | h
        · subst h; split at h0 <;> (split <;> omega)
        · exact ih.2 y (List.mem_cons_of_mem _ h)
def dMaxI : List D → Option D := fun ds => match dInts ds with
  | some (n :: ns) => some (.int (maxL n ns))
  | _ => none
def dMinI : List D → Option D := fun ds => match dInts ds with
  | some (n :: ns) => some (.int (minL n ns))
  | _ => none
def dMax : D → Option D
  | .lst ds => dMaxI ds
  | _ => none
def dMin : D → Option D
  | .lst ds => dMinI ds
  | _ => none
theorem o_max {φ : Fx} : Op1 φ (fun x => rMax φ.K [x]) dMax := fun W g σ H c x d Q ig cu tr h p => by
  cases d with
  | lst ds =>
    obtain ⟨a, vs, rfl, _, hs, hr⟩ := h
    have p' : Post W g (Rp g) σ H (ofO (match dInts ds with | some (n :: ns) => some (.int (maxL n ns)) | _ => none) c) Q := p
    cases q : dInts ds with
    | none => rw [q] at p'; exact p'.elim
    | some l =>
      rw [q] at p'
      cases l with
      | nil => exact p'.elim
      | cons n ns =>
        have e := dInts_some q
        subst e
        refine ⟨a, n :: ns, rfl, hr.ints ▸ .of hs, by simp, fun m hm hle => ?_⟩
        have hm' : m = maxL n ns := Int.le_antisymm ((maxL_spec ns n).2 m hm) (hle _ (maxL_spec ns n).1)
        subst hm'
        exact p'.val cu rfl
  | _ => exact p.elim
theorem o_min {φ : Fx} : Op1 φ (fun x => rMin φ.K [x]) dMin := fun W g σ H c x d Q ig cu tr h p => by
  cases d with
  | lst ds =>
    obtain ⟨a, vs, rfl, _, hs, hr⟩ := h
    have p' : Post W g (Rp g) σ H (ofO (match dInts ds with | some (n :: ns) => some (.int (minL n ns)) | _ => none) c) Q := p
    cases q : dInts ds with
    | none => rw [q] at p'; exact p'.elim
    | some l =>
      rw [q] at p'
      cases l with
      | nil => exact p'.elim
      | cons n ns =>
        have e := dInts_some q
        subst e
        refine ⟨a, n :: ns, rfl, hr.ints ▸ .of hs, by simp, fun m hm hle => ?_⟩
        have hm' : m = minL n ns := Int.le_antisymm (hle _ (minL_spec ns n).1) ((minL_spec ns n).2 m hm)
        subst hm'
        exact p'.val cu rfl
  | _ => exact p.elim
end DL

namespace DL
open PySem PySem.Spec PyProof.Rows L2

/-! ### == of data -/
mutual
def py : D → PyData
  | .non => .none
  | .bl b => .bool b
  | .int i => .int i
  | .str x => .str x
  | .tup ds => .tuple (pyL ds)
  | .lst ds => .list (pyL ds)
  | .raw _ => .none
  | .dct _ _ => .none
  | .fn _ => .none
  | .cup => .none
  | .scr _ => .none
def pyL : List D → List PyData
  | [] => []
  | d :: ds => py d :: pyL ds
end
mutual
def pure? : D → Bool
  | .raw _ => false
  | .dct _ _ => false
  | .fn _ => false
  | .cup => false
  | .scr _ => false
  | .tup ds => pureL? ds
  | .lst ds => pureL? ds
  | _ => true
def pureL? : List D → Bool
  | [] => true
  | d :: ds => pure? d && pureL? ds
end
def fit (d : D) : Bool := pure? d && SeqAt.shaped (py d)
mutual
theorem Rp.dp {g : Gh} {H : Hp} : ∀ {d : D} {v : V}, pure? d = true → Rp g H d v → Dp g.K H v (py d)
  | .non, _, _, h => by rw [show _ = V.non from h]; exact .non
  | .bl b, _, _, h => by rw [show _ = V.bl b from h]; exact .bl b
  | .int i, _, _, h => by rw [show _ = V.int i from h]; exact .int i
  | .str x, _, _, h => by rw [show _ = V.str x from h]; exact .str x
  | .tup ds, _, q, ⟨a, vs, e, s, r⟩ => by subst e; exact .tup s.t (RpL.dp q r)
  | .lst ds, _, q, ⟨a, vs, e, n, s, r⟩ => by subst e; exact .lst (.of s) (RpL.dp q r)
  | .raw _, _, q, _ => by cases q
  | .dct _ _, _, q, _ => by cases q
  | .fn _, _, q, _ => by cases q
  | .cup, _, q, _ => by cases q
  | .scr _, _, q, _ => by cases q
theorem RpL.dp {g : Gh} {H : Hp} : ∀ {ds : List D} {vs : List V}, pureL? ds = true → RpL g H ds vs → DpAll g.K H vs (pyL ds)
  | [], _, _, h => by rw [show _ = [] from h]; exact .nil
  | d :: ds, _, q, ⟨w, ws, e, h, r⟩ => by
    subst e
    have q' : pure? d = true ∧ pureL? ds = true := by simpa [pureL?] using q
    exact .cons (Rp.dp q'.1 h) (RpL.dp q'.2 r)
end
theorem RpS.dp {g : Gh} {H : Hp} : ∀ {d : D} {v : V}, pure? d = true → RpS g H d v → Dp g.K H v (py d)
  | .lst ds, _, q, ⟨a, vs, e, n, s, r⟩ => by subst e; exact .lst (.of s) (RpL.dp q r)
  | .non, _, q, h => Rp.dp q h
  | .bl b, _, q, h => Rp.dp q h
  | .int i, _, q, h => Rp.dp q h
  | .str x, _, q, h => Rp.dp q h
  | .tup ds, _, q, h => Rp.dp q h
  | .raw _, _, q, _ => by cases q
  | .dct _ _, _, q, _ => by cases q
  | .fn _, _, q, _ => by cases q
  | .cup, _, q, _ => by cases q
  | .scr _, _, q, _ => by cases q
def eqB (x y : D) : Bool := PyData.eqv (py x) (py y)
def dEq (x y : D) : Option D := match fit x && fit y with
  | true => some (.bl (eqB x y))
  | false => none
def dNe (x y : D) : Option D := match fit x && fit y with
  | true => some (.bl (!eqB x y))
  | false => none
theorem o_eq {φ : Fx} : Op2 φ (rEqD φ.K) dEq := fun W g σ H c x y d e Q ig cu tr h h' p => by
  unfold dEq at p
  cases q : fit d && fit e with
  | false => rw [q] at p; exact p.elim
  | true =>
    rw [q] at p
    simp only [fit, Bool.and_eq_true] at q
    exact ⟨_, _, ig.1 ▸ h.dp q.1.1, ig.1 ▸ h'.dp q.2.1, q.1.2, q.2.2, p.val cu rfl⟩
theorem o_ne {φ : Fx} : Op2 φ (rNeD φ.K) dNe := fun W g σ H c x y d e Q ig cu tr h h' p => by
  unfold dNe at p
  cases q : fit d && fit e with
  | false => rw [q] at p; exact p.elim
  | true =>
    rw [q] at p
    simp only [fit, Bool.and_eq_true] at q
    exact ⟨_, _, ig.1 ▸ h.dp q.1.1, ig.1 ▸ h'.dp q.2.1, q.1.2, q.2.2, p.val cu rfl⟩
/-- x is None, x is not None -/
def isN : D → Bool
  | .non => true
  | _ => false
def dIs (x y : D) : Option D := match y with
  | .non => some (.bl (isN x))
  | _ => none
def dIsNot (x y : D) : Option D := match y with
  | .non => some (.bl (!isN x))
  | _ => none
theorem isN_rp {g : Gh} {H : Hp} : ∀ {d : D} {v : V}, RpS g H d v → decide (v = .non) = isN d
  | .non, _, h => by rw [show _ = V.non from h]; rfl
  | .bl _, _, h => by rw [show _ = V.bl _ from h]; rfl
  | .int _, _, h => by rw [show _ = V.int _ from h]; rfl
  | .str _, _, h => by rw [show _ = V.str _ from h]; rfl
  | .tup _, _, ⟨a, vs, e, _⟩ => by subst e; rfl
  | .raw _, _, ⟨a, vs, e, _⟩ => by subst e; rfl
  | .dct _ _, _, ⟨a, o, vs, e, _⟩ => by subst e; rfl
  | .lst _, _, ⟨a, vs, e, _⟩ => by subst e; rfl
  | .fn _, _, h => by rw [show _ = V.ref _ from h]; rfl
  | .cup, _, ⟨a, _, e⟩ => by subst e; rfl
  | .scr _, _, ⟨a, e, _⟩ => by subst e; rfl
theorem o_is {φ : Fx} : Op2 φ (fun x y H Q => y = .non ∧ Q (.bl (decide (x = .non))) H) dIs := fun W g σ H c x y d e Q ig cu tr h h' p => by
  cases e with
  | non => exact ⟨h', p.val cu (by rw [isN_rp h]; rfl)⟩
  | _ => exact p.elim
theorem o_isNot {φ : Fx} : Op2 φ (fun x y H Q => y = .non ∧ Q (.bl (!decide (x = .non))) H) dIsNot := fun W g σ H c x y d e Q ig cu tr h h' p => by
  cases e with
  | non => exact ⟨h', p.val cu (by rw [isN_rp h]; rfl)⟩
  | _ => exact p.elim

/-! ### isinstance by a built-in type -/
def tyN : D → Option String
  | .non => some "NoneType"
  | .bl _ => some "bool"
  | .int _ => some "int"
  | .str _ => some "str"
  | .tup _ => some "tuple"
  | .lst _ => some "list"
  | _ => none
theorem tyX_of {g : Gh} {H : Hp} : ∀ {d : D} {v : V} {t : String}, tyN d = some t → RpS g H d v → TyX g.K H v (.type t)
  | .non, _, _, q, h => by cases q; rw [show _ = V.non from h]; exact .base .non
  | .bl b, _, _, q, h => by cases q; rw [show _ = V.bl _ from h]; exact .base (.bl b)
  | .int b, _, _, q, h => by cases q; rw [show _ = V.int _ from h]; exact .base (.int b)
  | .str b, _, _, q, h => by cases q; rw [show _ = V.str _ from h]; exact .base (.str b)
  | .tup _, _, _, q, ⟨a, vs, e, s, r⟩ => by
    cases q; subst e
    exact .fTuple s.choose_spec.1
  | .lst _, _, _, q, ⟨a, vs, e, n, s, r⟩ => by cases q; subst e; exact .base (.lst s)
  | .raw _, _, _, q, _ => by cases q
  | .dct _ _, _, _, q, _ => by cases q
  | .fn _, _, _, q, _ => by cases q
  | .cup, _, _, q, _ => by cases q
  | .scr _, _, _, q, _ => by cases q
/-- what isinstance answers for these types -/
def subT (a t : String) : Bool := a == t || (a == "bool" && t == "int")
def dIsi (t : String) (d : D) : Option D := (tyN d).map fun a => .bl (subT a t)
def okT (t : String) : Bool := t == "int" || t == "bool" || t == "str" || t == "tuple" || t == "list"
theorem kitB_ok : (["NoneType", "bool", "int", "str", "tuple", "list"].all fun a => ["int", "bool", "str", "tuple", "list"].all fun t => kitB a t == some (subT a t)) = true := by decide +kernel
theorem tyN_mem {d : D} {a : String} (h : tyN d = some a) : a ∈ ["NoneType", "bool", "int", "str", "tuple", "list"] := by
  cases d <;> first | (cases h; simp) | cases h
theorem kit_any {d : D} {a t : String} (h : tyN d = some a) (ht : t ∈ ["int", "bool", "str", "tuple", "list"]) : kitB a t = some (subT a t) := by
  have := List.all_eq_true.mp (List.all_eq_true.mp kitB_ok a (tyN_mem h)) t ht
  simpa using this
section
variable {X : Cx} {φ : Fx} {W : WX} {m : List Nat} {a b e : Expr} {fa fb f : Ex} {pos p p2 : Pos}
theorem de_isi {t : String} {x : Str} (hm : X.mg "isinstance" = none) (hmt : X.mg x = none) (hv : bootBuiltins x = some (.type t)) (ha : PE X a (tS φ W m fa)) (ht : t ∈ ["int", "bool", "str", "tuple", "list"] := by decide) (hgt : Gl X x := by rfl) (hg : Gl X "isinstance" := by rfl)
    (hs : starEach (a :: [.Name x p2]) X.env = (false, eval a X.env) :: starEach [.Name x p2] X.env := by rfl) (hK : X.K = φ.K := by rfl) (hdt : (x == ("__debug__" : Str)) = false := by decide) (hnt : x ≠ "__name__" := by decide) :
    PE X (.Call (.Name "isinstance" p) [a, .Name x p2] [] pos) (tD φ W m (e1 (dIsi t) fa)) := by
  have hb : PE X (.Name x p2) (tC (.ty t)) := pe_bltn (v := .ty t) hgt hmt hv rfl hnt hdt
  refine PE.imp (pe_callB (he := hs) call_isi hg hm boot_isinstance (pa_cons ha (pa_cons hb pa_nil) hs)) fun σ H Q h => ?_
  refine op1_run (r := fun x H Q => rIsi X.K [x, .ty t] H Q) (fun W g σ H c x d Q ig cu tr h p => ?_) h
  have p' : Post W g (Rp g) σ H (ofO ((tyN d).map fun a => .bl (subT a t)) c) Q := p
  cases q : tyN d with
  | none => rw [q] at p'; exact p'.elim
  | some ty =>
    rw [q] at p'
    exact ⟨x, .ty t, .type ty, .type t, _, rfl, .ty t, hK ▸ ig.1 ▸ tyX_of q h, kit_ty (kit_any q ht), p'.val cu rfl⟩
end

/-! ### in -/
def flatD : D → Bool
  | .non => true
  | .bl _ => true
  | .int _ => true
  | .str _ => true
  | _ => false
def fV : D → V
  | .bl b => .bl b
  | .int i => .int i
  | .str x => .str x
  | _ => .non
theorem flat_v {g : Gh} {H : Hp} : ∀ {d : D} {v : V}, flatD d = true → RpS g H d v → v = fV d ∧ flatV v = true
  | .non, _, _, h => by rw [show _ = V.non from h]; exact ⟨rfl, rfl⟩
  | .bl _, _, _, h => by rw [show _ = V.bl _ from h]; exact ⟨rfl, rfl⟩
  | .int _, _, _, h => by rw [show _ = V.int _ from h]; exact ⟨rfl, rfl⟩
  | .str _, _, _, h => by rw [show _ = V.str _ from h]; exact ⟨rfl, rfl⟩
  | .tup _, _, q, _ => by cases q
  | .lst _, _, q, _ => by cases q
  | .raw _, _, q, _ => by cases q
  | .dct _ _, _, q, _ => by cases q
  | .fn _, _, q, _ => by cases q
  | .cup, _, q, _ => by cases q
  | .scr _, _, q, _ => by cases q
theorem flat_rp {g : Gh} {H : Hp} : ∀ {d : D} {v : V}, flatD d = true → Rp g H d v → RpS g H d v
  | .non, _, _, h => h
  | .bl _, _, _, h => h
  | .int _, _, _, h => h
  | .str _, _, _, h => h
  | .tup _, _, q, _ => by cases q
  | .lst _, _, q, _ => by cases q
  | .raw _, _, q, _ => by cases q
  | .dct _ _, _, q, _ => by cases q
  | .fn _, _, q, _ => by cases q
  | .cup, _, q, _ => by cases q
  | .scr _, _, q, _ => by cases q
theorem flat_vs {g : Gh} {H : Hp} : ∀ {ds : List D} {vs : List V}, ds.all flatD = true → RpL g H ds vs → vs = ds.map fV ∧ vs.all flatV = true
  | [], _, _, h => by rw [show _ = [] from h]; exact ⟨rfl, rfl⟩
  | d :: ds, _, q, ⟨w, ws, e, h, r⟩ => by
    rw [List.all_cons, Bool.and_eq_true] at q
    obtain ⟨h1, h2⟩ := flat_v q.1 (flat_rp q.1 h)
    obtain ⟨h3, h4⟩ := flat_vs q.2 r
    subst e
    exact ⟨by rw [List.map_cons, ← h1, ← h3], by rw [List.all_cons, h2, h4]; rfl⟩
def dInF (x y : D) : Option Bool := match dItems y with
  | some ds => match flatD x && ds.all flatD with
    | true => some (inV (fV x) (ds.map fV))
    | false => none
  | none => none
def dIn (x y : D) : Option D := (dInF x y).map .bl
def dNotIn (x y : D) : Option D := (dInF x y).map fun b => .bl (!b)
theorem inF_run {φ : Fx} {g : Gh} {H : Hp} {x y : V} {d e : D} {b : Bool} (ig : g.is φ) (h : RpS g H d x) (h' : RpS g H e y) (q : dInF d e = some b) : ∃ p xs, y = .ref p ∧ (SqL φ.K H p xs ∨ SqT φ.K H p xs) ∧ flatV x = true ∧ xs.all flatV = true ∧ inV x xs = b := by
  unfold dInF at q
  have fin : ∀ {ds : List D} {vs : List V}, (match flatD d && ds.all flatD with | true => some (inV (fV d) (ds.map fV)) | false => none) = some b → RpL g H ds vs → flatV x = true ∧ vs.all flatV = true ∧ inV x vs = b := fun {ds vs} q r => by
    cases hf : flatD d && ds.all flatD with
    | false => rw [hf] at q; cases q
    | true =>
      rw [hf] at q
      rw [Bool.and_eq_true] at hf
      obtain ⟨h1, h2⟩ := flat_v hf.1 h
      obtain ⟨h3, h4⟩ := flat_vs hf.2 r
      exact ⟨h2, h4, by rw [h1, h3]; exact Option.some.inj q⟩
  cases e with
  | tup ds =>
    obtain ⟨a, vs, rfl, hs, hr⟩ := h'
    obtain ⟨h1, h2, h3⟩ := fin q hr
    exact ⟨a, vs, rfl, .inr hs.t, h1, h2, h3⟩
  | lst ds =>
    obtain ⟨a, vs, rfl, _, hs, hr⟩ := h'
    obtain ⟨h1, h2, h3⟩ := fin q hr
    exact ⟨a, vs, rfl, .inl (.of hs), h1, h2, h3⟩
  | _ => cases q
theorem o_in {φ : Fx} : Op2 φ (rIn φ.K false) dIn := fun W g σ H c x y d e Q ig cu tr h h' p => by
  have p' : Post W g (Rp g) σ H (ofO ((dInF d e).map .bl) c) Q := p
  cases q : dInF d e with
  | none => rw [q] at p'; exact p'.elim
  | some b =>
    rw [q] at p'
    obtain ⟨a, vs, h1, h2, h3, h4, h5⟩ := inF_run ig h h' q
    exact ⟨a, vs, h1, h2, h3, h4, p'.val cu (by rw [if_neg Bool.false_ne_true, h5]; rfl)⟩
theorem o_notIn {φ : Fx} : Op2 φ (rIn φ.K true) dNotIn := fun W g σ H c x y d e Q ig cu tr h h' p => by
  have p' : Post W g (Rp g) σ H (ofO ((dInF d e).map fun b => .bl (!b)) c) Q := p
  cases q : dInF d e with
  | none => rw [q] at p'; exact p'.elim
  | some b =>
    rw [q] at p'
    obtain ⟨a, vs, h1, h2, h3, h4, h5⟩ := inF_run ig h h' q
    exact ⟨a, vs, h1, h2, h3, h4, p'.val cu (by rw [if_pos rfl, h5]; rfl)⟩

/-! ### two and three names at once -/
def sPar (i j : Nat) (a b : Ex) : Sx := fun env c => (a env c).bind fun x c1 => (b env c1).bind fun y c2 => .ok (.nx ((env.set i (some x)).set j (some y))) c2
def sPar3 (i j k : Nat) (a b e : Ex) : Sx := fun env c => (a env c).bind fun x c1 => (b env c1).bind fun y c2 => (e env c2).bind fun z c3 => .ok (.nx (((env.set i (some x)).set j (some y)).set k (some z))) c3
theorem Rel.grown {g : Gh} {m : List Nat} {env : En} {c c' : C} {σ : L2.St} {H0 H : Hp} {a : Addr} (r : Rel g m env c σ H0) (k : Keep g.Cu H0 H) (cu : CupAt g c' H) (n : H0 a = none) (ha : H a ≠ none) : Rel (g.with a) m env c' σ H := by
  have nO : ¬ g.O a := fun z => r.trk a z n
  have rc := r.cu k cu
  refine ⟨fun b z => ?_, cu, fun b z => z.elim (r.apart b) fun e y => nO (.inl (e ▸ y)), r.len, fun j e n' q => ?_, fun j e n' q => ?_, r.sep⟩
  · by_cases e : b = a
    · subst e; exact ha
    · exact rc.trk b (z.elim .inl fun y => y.elim .inr fun x => absurd x e)
  · obtain ⟨v, h1, h2⟩ := r.sh j e n' q
    exact ⟨v, h1, Rp.move (g := g) (g' := g.with a) k rfl rfl rfl r.cup.cu (Gh.with_O n) h2⟩
  · obtain ⟨ds, b, vs, h1, h2, h3, h4, h5⟩ := r.ow j e n' q
    exact ⟨ds, b, vs, h1, h2, .inl h3, k.get b _ h4 fun z => absurd (r.cup.O0 z) (r.apart b h3), RpL.move (g := g) (g' := g.with a) k rfl rfl rfl r.cup.cu (Gh.with_O n) h5⟩
section
variable {X : Cx} {φ : Fx} {W : WX} {m m' m1 : List Nat} {st : Stmt} {fa fb fc : Ex} {i j k : Nat} {ta tb tc : TE}
theorem ds_parDD (h : PS X st (tPar i j (tCons ta (tCons tb tNil)))) (ha : ∀ σ H Q, tD φ W m fa σ H Q → ta σ H Q) (hb : ∀ σ H Q, tD φ W m fb σ H Q → tb σ H Q) (hi : i ∉ m := by decide) (hj : j ∉ m := by decide) : PS X st (tSt φ W m m (sPar i j fa fb)) :=
  PS.imp h fun D σ H ⟨g, env, c, ig, rel, p⟩ => ha _ _ _ ⟨g, env, c, ig, rel, SPost.of rel p fun x H1 d c1 k1 cu1 t1 p1 => by
    have rel1 := rel.cu k1 cu1
    refine hb _ _ _ ⟨g, env, c1, ig, rel1, SPost.of rel1 p1 fun y H2 e c2 k2 cu2 t2 p2 => ⟨x, y, rfl, p2 g _ H2 .refl ?_⟩⟩
    exact ((rel1.cu k2 cu2).set hi (t1.keep k2 cu1.cu)).set hj t2⟩
theorem ds_par3 (h : PS X st (tPar3 i j k (tCons ta (tCons tb (tCons tc tNil))))) (ha : ∀ σ H Q, tD φ W m fa σ H Q → ta σ H Q) (hb : ∀ σ H Q, tD φ W m fb σ H Q → tb σ H Q) (hc : ∀ σ H Q, tD φ W m fc σ H Q → tc σ H Q) (hi : i ∉ m := by decide) (hj : j ∉ m := by decide) (hk : k ∉ m := by decide) : PS X st (tSt φ W m m (sPar3 i j k fa fb fc)) :=
  PS.imp h fun D σ H ⟨g, env, c, ig, rel, p⟩ => ha _ _ _ ⟨g, env, c, ig, rel, SPost.of rel p fun x H1 d c1 k1 cu1 t1 p1 => by
    have rel1 := rel.cu k1 cu1
    refine hb _ _ _ ⟨g, env, c1, ig, rel1, SPost.of rel1 p1 fun y H2 e c2 k2 cu2 t2 p2 => ?_⟩
    have rel2 := rel1.cu k2 cu2
    refine hc _ _ _ ⟨g, env, c2, ig, rel2, SPost.of rel2 p2 fun z H3 f c3 k3 cu3 t3 p3 => ⟨x, y, z, rfl, p3 g _ H3 .refl ?_⟩⟩
    exact (((rel2.cu k3 cu3).set hi ((t1.keep k2 cu1.cu).keep k3 cu2.cu)).set hj (t2.keep k3 cu2.cu)).set hk t3⟩
/-- .. told from where it began -/
theorem SPost.at {α β : Type} {g : Gh} {D : Ends} {σ : L2.St} {H : Hp} {r : R α} {k : α → C → R Fl} {T : Hp → α → β → Prop} {Q : β → Hp → Prop} (p : SPost W g m' D σ H (r.bind k))
    (h : ∀ v H1 d c1, Keep g.Cu H H1 → CupAt g c1 H1 → T H1 d v → SPost W g m' D σ H (k d c1) → Q v H1) : Post W g T σ H r Q := by
  cases r with
  | ok d c1 => exact fun v H1 ke cu t => h v H1 d c1 ke cu t p
  | exc e c1 => exact fun H' ke cu => p σ H' (ke.mono fun _ z => .inr z) cu
  | bad => exact p
/-- the second one a new list, changed later -/
theorem ds_parDF (h : PS X st (tPar i j (tCons ta (tCons tb tNil)))) (ha : ∀ σ H Q, tD φ W m fa σ H Q → ta σ H Q) (hb : ∀ σ H Q, tF φ W m fb σ H Q → tb σ H Q) (hm : ∀ l, l ∈ m' → l = j ∨ l ∈ m) (hm' : ∀ l, l ∉ m' → l ≠ j ∧ l ∉ m) (hi : i ∉ m := by decide) : PS X st (tSt φ W m m' (sPar i j fa fb)) :=
  PS.imp h fun D σ H ⟨g, env, c, ig, rel, p⟩ => ha _ _ _ ⟨g, env, c, ig, rel, SPost.of rel p fun x H1 d c1 k1 cu1 t1 p1 => by
    have rel1 := rel.cu k1 cu1
    refine hb _ _ _ ⟨g, env, c1, ig, rel1, SPost.at (T := FrF g H1) p1 fun y H2 e c2 k2 cu2 ⟨ds, a, vs, e1, e2, n, hv, hr⟩ p2 => ?_⟩
    subst e1; subst e2
    exact ⟨x, .ref a, rfl, p2 (g.with a) _ H2 (.own rel1.cup cu2 k2 n) (Rel.own (rel1.set hi t1) k2 cu2 n hv hr hm hm')⟩⟩
/-- the first one -/
theorem ds_parFD (h : PS X st (tPar i j (tCons ta (tCons tb tNil)))) (ha : ∀ σ H Q, tF φ W m fa σ H Q → ta σ H Q) (hb : ∀ σ H Q, tD φ W m fb σ H Q → tb σ H Q) (hm : ∀ l, l ∈ m' → l = i ∨ l ∈ m) (hm' : ∀ l, l ∉ m' → l ≠ i ∧ l ∉ m) (hj : j ∉ m' := by decide) : PS X st (tSt φ W m m' (sPar i j fa fb)) :=
  PS.imp h fun D σ H ⟨g, env, c, ig, rel, p⟩ => ha _ _ _ ⟨g, env, c, ig, rel, SPost.at (T := FrF g H) p fun x H1 d c1 k1 cu1 ⟨ds, a, vs, e1, e2, n, hv, hr⟩ p1 => by
    subst e1; subst e2
    have rel1 := rel.grown k1 cu1 n (by rw [hv]; simp)
    have p2 := p1.after (σ1 := σ) (Aft.own rel.cup cu1 k1 n)
    refine hb _ _ _ ⟨g.with a, env, c1, ig, rel1, SPost.of rel1 p2 fun y H2 e c2 k2 cu2 t2 p3 => ⟨.ref a, y, rfl, p3 (g.with a) _ H2 .refl ?_⟩⟩
    have na : ¬ g.Cu a := fun z => rel.trk a (.inl (rel.cup.O0 z)) n
    exact (Rel.own rel (k1.trans1 k2) cu2 n (k2.get a _ hv fun z => absurd z na) (hr.keep k2 rel1.cup.cu) hm hm').set hj t2⟩
/-- both -/
theorem ds_parFF (h : PS X st (tPar i j (tCons ta (tCons tb tNil)))) (ha : ∀ σ H Q, tF φ W m fa σ H Q → ta σ H Q) (hb : ∀ σ H Q, tF φ W m fb σ H Q → tb σ H Q) (hm1 : ∀ l, l ∈ m1 → l = i ∨ l ∈ m) (hm1' : ∀ l, l ∉ m1 → l ≠ i ∧ l ∉ m) (hm : ∀ l, l ∈ m' → l = j ∨ l ∈ m1) (hm' : ∀ l, l ∉ m' → l ≠ j ∧ l ∉ m1) : PS X st (tSt φ W m m' (sPar i j fa fb)) :=
  PS.imp h fun D σ H ⟨g, env, c, ig, rel, p⟩ => ha _ _ _ ⟨g, env, c, ig, rel, SPost.at (T := FrF g H) p fun x H1 d c1 k1 cu1 ⟨ds, a, vs, e1, e2, n, hv, hr⟩ p1 => by
    subst e1; subst e2
    have rel1 := rel.grown k1 cu1 n (by rw [hv]; simp)
    have p2 := p1.after (σ1 := σ) (Aft.own rel.cup cu1 k1 n)
    refine hb _ _ _ ⟨g.with a, env, c1, ig, rel1, SPost.at (T := FrF (g.with a) H1) p2 fun y H2 e c2 k2 cu2 ⟨es, b, ws, e1, e2, n2, hv2, hr2⟩ p3 => ?_⟩
    subst e1; subst e2
    exact ⟨.ref a, .ref b, rfl, p3 ((g.with a).with b) _ H2 (.own cu1 cu2 k2 n2) (Rel.own (Rel.own rel k1 cu1 n hv hr hm1 hm1') k2 cu2 n2 hv2 hr2 hm hm')⟩⟩
end
/-! ### a def by its body -/
def dDef (l : Nat) (b : Sx) : List D → C → R D := fun ds c => match b (ds.map some ++ List.replicate (l - ds.length) none) c with
  | .ok (.nx _) c' => .ok .non c'
  | .ok (.rt d) c' => .ok d c'
  | .exc k c' => .exc k c'
  | .bad => .bad
theorem rel_start {g : Gh} {N : List Str} {ds : List D} {c : C} {vs : List V} {H : Hp} (tr : ∀ a, g.O a → H a ≠ none) (cu : CupAt g c H) (r : RpL g H ds vs) : Rel g.in [] (ds.map some ++ List.replicate (N.length - ds.length) none) c (L2.start N vs) H := by
  have l := r.length
  refine ⟨fun a z => z.elim (tr a) False.elim, ⟨cu.1, cu.2.imp id fun ⟨a, x, y, h1, h2, h3, h4⟩ => ⟨a, x, y, h1, h2, .inl h3, h4⟩⟩, fun a z => False.elim z, by simp [L2.start, l], fun i d _ e => ?_, fun i d n => (by cases n), fun i j d e v n => (by cases n)⟩
  have hi : i < ds.length := by
    by_cases h : i < ds.length
    · exact h
    · rw [List.getElem?_append_right (by simpa using h), List.getElem?_replicate] at e
      split at e <;> cases e
  rw [List.getElem?_append_left (by simpa using hi), List.getElem?_map] at e
  have e' : ds[i]? = some d := by
    cases q : ds[i]? with
    | none => rw [q] at e; cases e
    | some a => rw [q] at e; cases e; rfl
  obtain ⟨v, h1, h2⟩ := r.get e'
  refine ⟨v, ?_, h2.narrow rfl rfl rfl fun a z => .inl (z.elim id False.elim)⟩
  unfold L2.start
  rw [List.getElem?_append_left (by simp; omega), List.getElem?_map, h1]; rfl
section
variable {P : Program} {w : World} {K : PySem.W.Frag} {mg : Str → Option Value} {base : Heap} {φ : Fx}
theorem ok_def {x qual : Str} {st : Stmt} {f : Addr} {fd : FuncData} {N ps : List Str} {k n : Nat} {b : Sx} (F : Fun K x qual st f fd) (S : FnScope N ps (defScope st)) (hn : ps.length = n) (m' : List Nat)
    (hb : ∀ (cdv : Value) (A : Around) (outer : List Env) (s : Shared) (H : Hp) (E : XK), Room k (A.deeper (envOfC qual (defScope st) s.heap.objs.size f cdv)) →
      PSs (cxOf (L2.CX P w) P w K mg base N qual (defScope st) f cdv A outer s H E) (defBody st) (tSt φ (WofE E) [] m' b)) :
    FnOk P w K mg base (L2.CX P w) (k + 1) f fd ps (spD φ n (dDef N.length b)) := by
  refine F.okX S (fun vs H Q E h => h.1.trans hn.symm) fun cdv A outer s H vs Q E hr h => ⟨_, hb cdv A outer s H E hr, ?_⟩
  obtain ⟨_, g, ds, c, ig, tr, cu, r, p⟩ := h
  refine ⟨g.in, _, c, ig, rel_start tr cu r, ?_⟩
  have kp : ∀ {H'}, Keep g.in.Ch H H' → Keep g.Cu H H' := fun k => k.mono fun a z => z.elim False.elim id
  have cu' : ∀ {c' H'}, CupAt g.in c' H' → CupAt g c' H' := fun q => ⟨q.1, q.2.imp id fun ⟨a, x, y, h1, h2, h3, h4⟩ => ⟨a, x, y, h1, h2, cu.O0 h1, h4⟩⟩
  unfold dDef at p
  cases q : b (ds.map some ++ List.replicate (N.length - ds.length) none) c with
  | bad => rw [q] at p; exact p.elim
  | exc k c' => rw [q] at p; exact fun σ' H' k cu2 => p H' (kp k) (cu' cu2)
  | ok fl c' =>
    rw [q] at p
    cases fl with
    | nx env' => exact fun g' σ' H' a rel' => p .non H' (kp a.keep) (cu' (rel'.cup.ext a.ext)) rfl
    | rt d => exact fun v H' k cu2 t => p v H' (kp k) (cu' cu2) (t.narrow rfl rfl rfl fun a z => .inl (.inl z))
end
end DL

namespace DL
open PySem PySem.Spec PyProof.Rows L2

section
variable {P : Program} {w : World} {K : PySem.W.Frag} {mg : Str → Option Value} {base : Heap} {φ : Fx}
def mBad : List D → C → R D := fun _ _ => .bad
theorem ok_bad {k : Nat} {f : Addr} {fd : FuncData} {ps : List Str} {n : Nat} (hn : ps.length = n) : FnOk P w K mg base (L2.CX P w) k f fd ps (spD φ n mBad) :=
  ⟨fun vs H Q E h => h.1.trans hn.symm, fun A outer s H args us vs Q E hr he hb hv h => by
    obtain ⟨_, g, ds, c, ig, tr, cu, r, p⟩ := h
    exact p.elim⟩
end
section
variable {X : Cx} {φ : Fx} {W : WX} {m m' m'' : List Nat} {a b e : Expr} {st : Stmt} {rest : List Stmt} {fa fb f : Ex} {s t : Sx} {pos p p2 : Pos}
theorem tF_of {σ : L2.St} {H : Hp} {Q : VK} (h : tD φ W m f σ H Q) : tF φ W m f σ H Q := by
  obtain ⟨g, env, c, ig, r, p⟩ := h
  refine ⟨g, env, c, ig, r, ?_⟩
  cases q : f env c with
  | ok d c1 => rw [q] at p; exact fun v H' k cu t => p v H' k cu (t.rp r.trk)
  | exc e c1 => rw [q] at p; exact p
  | bad => rw [q] at p; exact p
theorem de_gintE {x : Str} {n : Int} (hm : ∃ t, X.mg x = some (.int n t)) (hg : Gl X x := by rfl) (hd : (x == ("__debug__" : Str)) = false := by decide) : PE X (.Name x pos) (tD φ W m (eC (.int n))) := by
  obtain ⟨t, hm⟩ := hm
  exact de_gint hm hg hd
/-! ### raise -/
def sRaise (k : Nat) : Sx := fun _ c => .exc k c
theorem ds_raise {k : Nat} (h : PS X st (fun _ σ H => W (.ref (φ.ec k)) none σ H)) : PS X st (tSt φ W m m' (sRaise k)) :=
  PS.imp h fun D σ H ⟨g, env, c, ig, rel, p⟩ => by
    have := p σ H .refl rel.cup
    rw [ig.2.2.1] at this
    exact this
/-! ### the cup -/
def eCup (i : Nat) (k : Bool) : Ex := fun env c => match env.getD i none with
  | some .cup => match c with
    | some q => .ok (.int (match k with | true => q.2 | false => q.1)) c
    | none => .bad
  | _ => .bad
theorem de_cup {i : Nat} {k : Bool} {n : Int} (hn : n = (match k with | true => 1 | false => 0)) (ha : PE X a (tVar i)) (hb : PE X b (tC (.int n))) (hm : i ∉ m := by decide) (hs : PlainIx b := by exact fun _ _ => rfl) : PE X (.Subscript a b pos) (tD φ W m (eCup i k)) :=
  PE.imp (pe_ix ix_list ha hb hs) fun σ H Q ⟨g, env, c, ig, rel, p⟩ => by
    unfold eCup at p
    cases hd : env.getD i none with
    | none => rw [hd] at p; exact p.elim
    | some d =>
    rw [hd] at p
    cases d with
    | cup =>
      obtain ⟨v, h1, a, h2, rfl⟩ := rel.sh i _ hm (getD_some hd)
      obtain ⟨x, y, rfl, h4, h5⟩ := rel.cup.at h2
      subst hn
      cases k with
      | true => exact ⟨_, h1, a, [.int x, .int y], _, .int y, rfl, rfl, .of h5, rfl, p.val rel.cup rfl⟩
      | false => exact ⟨_, h1, a, [.int x, .int y], _, .int x, rfl, rfl, .of h5, rfl, p.val rel.cup rfl⟩
    | _ => exact p.elim
def sCupPut (i : Nat) (k : Bool) (e : Ex) : Sx := fun env c => (e env c).bind fun d c1 => match d with
  | .int n => match env.getD i none with
    | some .cup => match c1 with
      | some q => .ok (.nx env) (some (match k with | true => (q.1, n) | false => (n, q.2)))
      | none => .bad
    | _ => .bad
  | _ => .bad
theorem ds_cupPut {i : Nat} {k : Bool} {n : Int} {te : TE} (hn : n = (match k with | true => 1 | false => 0)) (h : PS X st (tAsg te (gSub (tVar i) (tC (.int n)) rSetL))) (he : ∀ σ H Q, tD φ W m f σ H Q → te σ H Q) (hm : i ∉ m := by decide) : PS X st (tSt φ W m m (sCupPut i k f)) :=
  PS.imp h fun D σ H ⟨g, env, c, ig, rel, p⟩ => he _ _ _ ⟨g, env, c, ig, rel, SPost.of rel p fun v H1 d c1 k1 cu1 t1 p1 => by
    have rel1 := rel.cu k1 cu1
    cases d with
    | int z =>
      dsimp only at p1
      cases hd : env.getD i none with
      | none => rw [hd] at p1; exact p1.elim
      | some d =>
      rw [hd] at p1
      cases d with
      | cup =>
        obtain ⟨v', h1, a, h2, rfl⟩ := rel1.sh i _ hm (getD_some hd)
        obtain ⟨x, y, rfl, h4, h5⟩ := rel1.cup.at h2
        subst hn
        have kk : ∀ ys, Keep g.Cu H1 (L2.upd H1 a (.lst ys)) := fun ys => .put h2 h5
        cases k with
        | true =>
          have cu2 : CupAt g (some (x, z)) (L2.upd H1 a (.lst [.int x, .int z])) := ⟨tabs_put rel1.cup.1 h5, .inr ⟨a, x, z, h2, rfl, h4, upd_same⟩⟩
          exact ⟨_, h1, a, [.int x, .int y], 1, 1, rfl, rfl, h5, rfl, by rw [show v = V.int z from t1]; exact p1 g σ _ (.cu rel1.cup cu2 (kk _)) (rel1.cu (kk _) cu2)⟩
        | false =>
          have cu2 : CupAt g (some (z, y)) (L2.upd H1 a (.lst [.int z, .int y])) := ⟨tabs_put rel1.cup.1 h5, .inr ⟨a, z, y, h2, rfl, h4, upd_same⟩⟩
          exact ⟨_, h1, a, [.int x, .int y], 0, 0, rfl, rfl, h5, rfl, by rw [show v = V.int z from t1]; exact p1 g σ _ (.cu rel1.cup cu2 (kk _)) (rel1.cu (kk _) cu2)⟩
      | _ => exact p1.elim
    | _ => exact p1.elim⟩
/-! ### the law's own def -/
def LPost (φ : Fx) (D : Ends) (r : R Fl) : Prop := match r with
  | .ok (.rt d) _ => ∀ v H' g, Gh.is g φ → Rp g H' d v → D.rt v H'
  | _ => False
def tSl (φ : Fx) (m : List Nat) (s : Sx) : TS := fun D σ H => ∃ g env c, g.is φ ∧ Rel g m env c σ H ∧ LPost φ D (s env c)
theorem ll_of (h : PSs X rest (tSt φ W m m' s)) : PSs X rest (tSl φ m s) := PSs.imp h fun D σ H ⟨g, env, c, ig, rel, p⟩ => ⟨g, env, c, ig, rel, by
  cases q : s env c with
  | ok f c1 =>
    rw [q] at p
    cases f with
    | nx e => exact p.elim
    | rt d => exact fun v H' _ _ r => p v H' g.out ig r
  | exc k c1 => rw [q] at p; exact p.elim
  | bad => rw [q] at p; exact p.elim⟩
theorem ll_cons (h1 : PS X st (tSt φ W m m' s)) (h2 : PSs X rest (tSl φ m' t)) : PSs X (st :: rest) (tSl φ m (sSeq s t)) :=
  PSs.imp (pss_cons h1 h2) fun D σ H ⟨g, env, c, ig, rel, p⟩ => ⟨g, env, c, ig, rel, by
    unfold sSeq at p
    cases q : s env c with
    | ok fl c1 =>
      rw [q] at p
      cases fl with
      | nx e1 => exact fun g' σ' H' a rel' => ⟨g', e1, c1, a.ext.is ig, rel', p⟩
      | rt d => exact fun v H' _ _ r => p v H' g.out ig r
    | exc k c1 => rw [q] at p; exact p.elim
    | bad => rw [q] at p; exact p.elim⟩
/-- the rest of the law: from where the cup has come -/
def plainO : Option D → Bool
  | some d => plain d
  | none => true
def asInt : D → Option Int
  | .int x => some x
  | _ => none
theorem asInt_some {d : D} {x : Int} (h : asInt d = some x) : d = .int x := by
  cases d <;> first | (cases h; rfl) | cases h
def asCup : D → Option (Int × Int)
  | .lst ds => match ds with
    | [a, b] => (asInt a).bind fun x => (asInt b).map fun y => (x, y)
    | _ => none
  | _ => none
theorem asCup_some {d : D} {q : Int × Int} (h : asCup d = some q) : d = .lst [.int q.1, .int q.2] := by
  cases d with
  | lst ds =>
    match ds, h with
    | [a, b], h =>
      have h' : ((asInt a).bind fun x => (asInt b).map fun y => (x, y)) = some q := h
      cases ha : asInt a with
      | none => rw [ha] at h'; cases h'
      | some x =>
        cases hb : asInt b with
        | none => rw [ha, hb] at h'; cases h'
        | some y =>
          rw [ha, hb] at h'
          cases h'
          rw [asInt_some ha, asInt_some hb]
  | _ => cases h
/-- a law ends with True or False -/
def endB (c : C) : R Fl → R Fl
  | .ok (.rt (.bl b)) _ => .ok (.rt (.bl b)) c
  | _ => .bad
def sCup (i : Nat) (f : Ex) (s : Sx) : Sx := fun env c => match c with
  | none => (f env none).bind fun d c1 => match asCup d with
    | some q => match env.all plainO with
      | true => endB c1 (s (env.set i (some .cup)) (some q))
      | false => .bad
    | none => .bad
  | some _ => .bad
mutual
/-- data without lists is told alike from a frame with a cup -/
theorem Rp.cupped {g g' : Gh} {H : Hp} (hK : g'.K = g.K) (hf : g'.fa = g.fa) (hc : g.ca = none) : ∀ {d : D} {v : V}, plain d = true → Rp g H d v → Rp g' H d v
  | .non, _, _, h => h
  | .bl _, _, _, h => h
  | .int _, _, _, h => h
  | .str _, _, _, h => h
  | .tup ds, _, q, ⟨a, vs, e, s, r⟩ => ⟨a, vs, e, s, RpL.cupped hK hf hc q r⟩
  | .raw _, _, q, _ => by cases q
  | .dct _ _, _, q, _ => by cases q
  | .lst _, _, q, _ => by cases q
  | .fn _, _, _, h => by simp only [Rp] at h ⊢; rw [hf]; exact h
  | .cup, _, _, ⟨a, e, _⟩ => by rw [hc] at e; cases e
  | .scr _, _, _, ⟨a, e, h⟩ => ⟨a, e, hK ▸ h⟩
theorem RpL.cupped {g g' : Gh} {H : Hp} (hK : g'.K = g.K) (hf : g'.fa = g.fa) (hc : g.ca = none) : ∀ {ds : List D} {vs : List V}, plainL ds = true → RpL g H ds vs → RpL g' H ds vs
  | [], _, _, h => h
  | d :: ds, _, q, ⟨w, ws, e, h, r⟩ => by
    have q' : DL.plain d = true ∧ plainL ds = true := by simpa [plainL] using q
    exact ⟨w, ws, e, Rp.cupped hK hf hc q'.1 h, RpL.cupped hK hf hc q'.2 r⟩
end
theorem ll_cup {i : Nat} {te : TE} (h1 : PS X st (tAsg te (gName i))) (he : ∀ σ H Q, tD φ W [] f σ H Q → te σ H Q) (h2 : PSs X rest (tSl φ [] s)) : PSs X (st :: rest) (tSl φ [] (sCup i f s)) :=
  PSs.imp (pss_cons h1 h2) fun D σ H ⟨g, env, c, ig, rel, p⟩ => he _ _ _ ⟨g, env, c, ig, rel, by
    unfold sCup at p
    cases c with
    | some q => exact p.elim
    | none =>
    have hc : g.ca = none := by
      rcases rel.cup.2 with q | ⟨a, x, y, _, h, _⟩
      · exact q.1
      · cases h
    dsimp only at p
    cases q : f env none with
    | exc k c1 => rw [q] at p; exact p.elim
    | bad => rw [q] at p; exact p.elim
    | ok d c1 =>
    rw [q] at p
    intro v H1 k1 cu1 t1
    have rel1 := rel.cu k1 cu1
    have p1 : LPost φ D (match asCup d with | some q => (match env.all plainO with | true => endB c1 (s (env.set i (some .cup)) (some q)) | false => .bad) | none => .bad) := p
    cases hq : asCup d with
    | none => rw [hq] at p1; exact p1.elim
    | some xy =>
    rw [hq] at p1
    dsimp only at p1
    cases hp : env.all plainO with
    | false => rw [hp] at p1; exact p1.elim
    | true =>
    rw [hp] at p1
    have e := asCup_some hq
    subst e
    obtain ⟨a, vs, e, n, hs, w1, ws1, ev1, r1, w2, ws2, ev2, r2, r3⟩ := t1
    have hvs : vs = [.int xy.1, .int xy.2] := by
      rw [ev1, ev2, show w1 = V.int xy.1 from r1, show w2 = V.int xy.2 from r2, show ws2 = [] from r3]
    subst hvs
    subst e
    let g2 : Gh := { K := g.K, fa := g.fa, ec := g.ec, ca := some a, T := g.T, O0 := fun b => g.O b ∨ b = a, F := fun _ => False }
    have hpl : ∀ (j : Nat) d, env[j]? = some (some d) → DL.plain d = true := fun j d hj => List.all_eq_true.mp hp (some d) (List.mem_of_getElem? hj)
    have rel2 : Rel g2 [] (env.set i (some .cup)) (some xy) (σ.set i (some (.ref a))) H1 := by
      refine Rel.set (g := g2) (m := []) ⟨fun b z => ?_, ⟨cu1.1, .inr ⟨a, xy.1, xy.2, rfl, rfl, .inr rfl, hs⟩⟩, fun b z => z.elim, rel1.len, fun j d _ hj => ?_, fun j d hj => (by cases hj), fun j l e f v hj => (by cases hj)⟩ (by simp) ⟨a, rfl, rfl⟩
      · rcases z with (z | z) | z
        · exact rel1.trk b z
        · rw [z, hs]; simp
        · exact z.elim
      · obtain ⟨v, h3, h4⟩ := rel1.sh j d (by simp) hj
        exact ⟨v, h3, Rp.cupped (g := g) (g' := g2) rfl rfl hc (hpl j d hj) h4⟩
    refine ⟨g2, _, _, ig, rel2, ?_⟩
    have p2 : LPost φ D (endB c1 (s (env.set i (some .cup)) (some xy))) := p1
    revert p2
    cases s (env.set i (some .cup)) (some xy) with
    | exc k c2 => exact fun p => p.elim
    | bad => exact fun p => p.elim
    | ok fl c2 =>
      cases fl with
      | nx e => exact fun p => p.elim
      | rt d =>
        cases d with
        | bl b => exact fun p => p
        | _ => exact fun p => p.elim⟩
end
end DL

namespace DL
open PySem PySem.Spec PyProof.Rows L2
abbrev dLt : D → D → Option D := dInt2 fun a b => some (.bl (decide (a < b)))
abbrev dLe : D → D → Option D := dInt2 fun a b => some (.bl (decide (a ≤ b)))
abbrev dGt : D → D → Option D := dInt2 fun a b => some (.bl (decide (b < a)))
abbrev dGe : D → D → Option D := dInt2 fun a b => some (.bl (decide (b ≤ a)))
abbrev dSub : D → D → Option D := dInt2 fun a b => some (.int (a - b))
abbrev dMin2 : D → D → Option D := dInt2 fun i j => some (.int (if j < i then j else i))
abbrev dMax2 : D → D → Option D := dInt2 fun i j => some (.int (if j > i then j else i))
end DL
namespace DL
open PySem PySem.Spec PyProof.Rows L2
/-! ### the law as a def -/
def spLaw (K : PySem.W.Frag) (T : List (Addr × Str)) : Sp := fun vs H Q _ => ∃ a ns, vs = [.ref a] ∧ Scr K H a ns ∧ LamX.Tabs T H ∧ ns.length ≤ 63 ∧ ∀ H', Q (.bl true) H'
theorem scr_of {K : PySem.W.Frag} {H : Hp} {a : Addr} {ns : List Int} (h : SqL K H a (ns.map V.int)) (o : H a = none ∨ ∃ o xs, H a = some (.frz o (.lst xs))) : Scr K H a ns := by
  rcases h with (h | ⟨ob, h⟩) | h
  · rcases o with o | ⟨_, _, o⟩ <;> (rw [o] at h; cases h)
  · exact .inl ⟨ob, h⟩
  · exact .inr h
def lawIn (l : Nat) (ns : List Int) : En := some (.scr ns) :: List.replicate (l - 1) none
section
variable {P : Program} {w : World} {K : PySem.W.Frag} {mg : Str → Option Value} {base : Heap} {fa : Nat → Addr} {ec : Nat → Addr} {T : List (Addr × Str)}
theorem ok_lawdef {x qual : Str} {st : Stmt} {f : Addr} {fd : FuncData} {N : List Str} {k : Nat} {b : Sx} (F : Fun K x qual st f fd) (S : FnScope N ["script"] (defScope st))
    (hlaw : ∀ ns : List Int, ns.length ≤ 63 → ∃ c', b (lawIn N.length ns) none = .ok (.rt (.bl true)) c')
    (hb : ∀ (cdv : Value) (A : Around) (outer : List Env) (s : Shared) (H : Hp) (E : XK), Room k (A.deeper (envOfC qual (defScope st) s.heap.objs.size f cdv)) →
      PSs (cxOf (L2.CX P w) P w K mg base N qual (defScope st) f cdv A outer s H E) (defBody st) (tSl ⟨K, fa, ec, T⟩ [] b)) :
    FnOk P w K mg base (L2.CX P w) (k + 1) f fd ["script"] (spLaw K T) := by
  refine F.okX S (fun vs H Q E ⟨a, ns, e, _⟩ => by rw [e]; rfl) fun cdv A outer s H vs Q E hr ⟨a, ns, e, hs, ht, hl, q⟩ => ⟨_, hb cdv A outer s H E hr, ?_⟩
  subst e
  obtain ⟨c', hc⟩ := hlaw ns hl
  refine ⟨⟨K, fa, ec, none, T, fun _ => False, fun _ => False⟩, lawIn N.length ns, none, ⟨rfl, rfl, rfl, rfl⟩, ⟨fun a z => (z.elim id id).elim, ⟨ht, .inl ⟨rfl, rfl⟩⟩, fun a z => z.elim, by simp [L2.start, lawIn], fun i d _ e => ?_, fun i d n => (by cases n), fun i j d e v n => (by cases n)⟩, ?_⟩
  · cases i with
    | zero =>
      simp only [lawIn, List.getElem?_cons_zero, Option.some.injEq] at e
      subst e
      exact ⟨.ref a, rfl, a, rfl, hs⟩
    | succ i =>
      simp only [lawIn, List.getElem?_cons_succ, List.getElem?_replicate] at e
      split at e <;> cases e
  · rw [hc]
    exact fun v H' g ig r => by
      have r' : v = .bl true := r
      subst r'
      exact q H'
end
theorem cx_no {P : Program} {w : World} {H : Hp} {s : Shared} {e : Value} {s' : Shared} (h : L2.CX P w [] H s (fun _ _ _ => False) e s') : False := by
  obtain ⟨_, _, _, _, _, _, _, _, _, _, _, _, z⟩ := h
  exact z
end DL

namespace DL
open PySem PySem.Spec PyProof.Rows L2

/-! ### a sequence times a number -/
def repL (ds : List D) (k : Int) : Option D := match decide (-(2 ^ 63) ≤ k ∧ k < 2 ^ 63 ∧ ds.length * k.toNat ≤ 100000) with
  | true => some (.lst (List.replicate k.toNat ds).flatten)
  | false => none
def dRep : D → D → Option D
  | .lst ds, .int k => repL ds k
  | _, _ => none
theorem RpL.reps {g : Gh} {H : Hp} {ds : List D} {vs : List V} (h : RpL g H ds vs) : ∀ n : Nat, RpL g H (List.replicate n ds).flatten (List.replicate n vs).flatten
  | 0 => rfl
  | n + 1 => by
    rw [List.replicate_succ, List.replicate_succ, List.flatten_cons, List.flatten_cons]
    exact h.append (h.reps n)
theorem o_rep {φ : Fx} : Op2 φ rRep dRep := fun W g σ H c x y d e Q ig cu tr h h' p => by
  cases e with
  | int k =>
    have ey : y = .int k := h'
    subst ey
    cases d with
    | lst ds =>
      obtain ⟨a, vs, rfl, n, hs, r⟩ := h
      change Post W g (Rp g) σ H (ofO (repL ds k) c) Q at p
      unfold repL at p
      cases hd : decide (-(2 ^ 63) ≤ k ∧ k < 2 ^ 63 ∧ ds.length * k.toNat ≤ 100000) with
      | false => rw [hd] at p; exact p.elim
      | true =>
        rw [hd] at p
        have q := of_decide_eq_true hd
        refine ⟨a, k, vs, rfl, rfl, hs, q.1, q.2.1, ?_, fun p' hp => ?_⟩
        · rw [r.length, sizeLine_eq]; omega
        · exact p _ _ (Keep.new hp) (cu.new hp) (new_lst tr hp (r.reps _))
    | _ => exact p.elim
  | _ => cases d <;> exact p.elim

/-! ### how often, and where first -/
def dCount : D → D → Option D
  | .tup ds, .int k => (dInts ds).map fun ns => .int (ns.count k)
  | .lst ds, .int k => (dInts ds).map fun ns => .int (ns.count k)
  | _, _ => none
def dIndex : D → D → Option D
  | .tup ds, .int k => (dInts ds).bind fun ns => match decide (k ∈ ns) with
    | true => some (.int (ns.idxOf k))
    | false => none
  | .lst ds, .int k => (dInts ds).bind fun ns => match decide (k ∈ ns) with
    | true => some (.int (ns.idxOf k))
    | false => none
  | _, _ => none
section
variable {X : Cx}
def rCntA (K : PySem.W.Frag) : V → List V → Hp → VK → Prop := fun x xs H Q => ∃ (p : Addr) (ns : List Int) (k : Int), x = .ref p ∧ xs = [.int k] ∧ SqT K H p (ns.map V.int) ∧ Q (.int (ns.count k : Nat)) H
theorem mt_tcount : MtR X "tuple.count" (rCntA X.K) := by
  intro pins s σ H x xs v us Q I rx rxs h
  obtain ⟨p, ns, k, rfl, rfl, hs, q⟩ := h
  cases rx
  obtain ⟨u, rfl, t, rfl⟩ := rxs.one
  obtain ⟨its, rv, ⟨⟨cls, dd, data, sl⟩, ho, hc, n, hd⟩, hlen⟩ := I.tuple hs
  simp only at hc hd
  subst hc hd
  have hi := intsAre_of rv
  refine call_meets PySem.F.slot_tuple_count ⟨_, ho, rfl⟩ PySem.F.entry_tuple_count (PySem.F.args_tuple_count_2 _ _)
    (PySem.SeqAt.tuple_countAt p its.toArray n dd sl (.int k t) (eqk k)) ⟨ho, fun y hy => (eqk_gives hi y (by simpa using hy)).at _ _, ?_⟩
  have ec : its.toArray.toList.countP (eqk k) = ns.count k := eqk_count hi
  exact ⟨.int (ns.count k : Nat), H, I.tok _, ⟨s.toks, by rw [← ec]⟩, q⟩
def rIdxA (K : PySem.W.Frag) : V → List V → Hp → VK → Prop := fun x xs H Q => ∃ (p : Addr) (ns : List Int) (k : Int), x = .ref p ∧ xs = [.int k] ∧ SqT K H p (ns.map V.int) ∧ k ∈ ns ∧ Q (.int (ns.idxOf k : Nat)) H
theorem mt_tindex : MtR X "tuple.index" (rIdxA X.K) := by
  intro pins s σ H x xs v us Q I rx rxs h
  obtain ⟨p, ns, k, rfl, rfl, hs, hk, q⟩ := h
  cases rx
  obtain ⟨u, rfl, t, rfl⟩ := rxs.one
  obtain ⟨its, rv, ⟨o, ho, hc, n, hd⟩, hlen⟩ := I.tuple hs
  exact PySem.SeqAt.tuple_index_ints ⟨o, ho, hc, n, hd⟩ (intsAre_of rv) hk ⟨.int (ns.idxOf k : Nat), H, I.tok _, ⟨_, rfl⟩, q⟩
def rIdxL (K : PySem.W.Frag) : V → List V → Hp → VK → Prop := fun x xs H Q => ∃ (p : Addr) (ns : List Int) (k : Int), x = .ref p ∧ xs = [.int k] ∧ SqL K H p (ns.map V.int) ∧ k ∈ ns ∧ Q (.int (ns.idxOf k : Nat)) H
theorem mt_lindex : MtR X "list.index" (rIdxL X.K) := by
  intro pins s σ H x xs v us Q I rx rxs h
  obtain ⟨p, ns, k, rfl, rfl, hs, hk, q⟩ := h
  cases rx
  obtain ⟨u, rfl, t, rfl⟩ := rxs.one
  obtain ⟨its, rv, hp, hlen⟩ := I.list hs
  exact PySem.SeqAt.list_index_ints hp.isList (intsAre_of rv) (by rw [List.length_map] at hlen; exact hlen) hk ⟨.int (ns.idxOf k : Nat), H, I.tok _, ⟨_, rfl⟩, q⟩
/-- a method of lists and tuples, with one argument -/
def tMth (K : PySem.W.Frag) (rL rT : V → List V → Hp → VK → Prop) (to : TE) (t : TA) : TE := fun σ H Q => to σ H fun x H1 => ∃ a, x = .ref a ∧
  (((∃ vs, SqL K H1 a vs) ∧ t σ H1 fun xs H2 => rL x xs H2 Q) ∨ ((∃ vs, SqN H1 a vs) ∧ t σ H1 fun xs H2 => rT x xs H2 Q))
variable {o e : Expr} {es : List Expr} {to : TE} {t : TA} {name : Str} {apos cpos : Pos} {iL iT : String} {rL rT : V → List V → Hp → VK → Prop}
theorem pe_mth (sL : Slot "list" name iL) (yL : typeOf (.builtin iL) = pure (.type "method_descriptor")) (mL : MtR X iL rL) (sT : Slot "tuple" name iT) (yT : typeOf (.builtin iT) = pure (.type "method_descriptor")) (mT : MtR X iT rT)
    (ho : PE X o to) (ha : PA X (e :: es) t) (hbase : attributeBase o name X.env (eval o X.env) = eval o X.env := by rfl)
    (hfew : ((backTo cpos (starEach (e :: es) X.env)).all (fun x => !x.1) && (backToKw cpos (keywordEach [] X.env)).all (fun x => x.1.isSome) && decide ((e :: es).length + ([] : List Keyword).length + (if ([] : List Keyword).isEmpty then 0 else 1) < 30)) = true := by rfl)
    (hline : (apos.endLine == cpos.line) = true := by rfl) (hs : starEach (e :: es) X.env = (false, eval e X.env) :: starEach es X.env := by rfl) (hplain : (backTo cpos (starEach es X.env)).any (·.1) = false := by rfl) :
    PE X (.Call (.Attribute o name apos) (e :: es) [] cpos) (tMth X.K rL rT to t) := ⟨fun pins s σ H Q I h => by
  refine wpAny_Call_method_late hbase hfew hline rfl (thn (ho.run pins s σ H _ I h) fun v s1 ⟨x, H1, I1, r1, a, ea, q1⟩ => ?_)
  subst ea
  cases r1
  have fin : ∀ {r : V → List V → Hp → VK → Prop} {id : String}, MtR X id r → (t σ H1 fun xs H2 => r (.ref a) xs H2 Q) → wpAny (model X.prog X.w) X.A (callWith cpos (.builtin id) [.ref a] (backTo cpos (starEach (e :: es) X.env)) (backToKw cpos (keywordEach [] X.env))) (EP X pins σ Q) X.xe s1 := fun {r id} hm q => by
    have hA := ha.run cpos pins s1 σ H1 _ I1 q
    rw [hs] at hA ⊢
    refine Calls.callWith_builtin (by show (false || (backTo cpos (starEach es X.env)).any (·.1)) = false; rw [hplain] <;> rfl) (Calls.evalArgs_plain ?_)
    exact thn hA fun us s2 ⟨vs, H2, I2, r2, q2⟩ => hm pins s2 σ H2 (.ref a) vs (.ref a) us Q I2 rfl r2 q2
  rcases q1 with ⟨⟨vs, ty⟩, q⟩ | ⟨⟨vs, ty⟩, q⟩
  · obtain ⟨h1, h2⟩ := tyV_is (T := "list") (x := .ref a) I1 rfl (.inl ⟨rfl, vs, ty⟩)
    exact ⟨"list", iL, PySem.F.plainAttrs_list, sL, yL, h1, h2, fin mL q⟩
  · obtain ⟨its, n, sl, _, e1⟩ := ty.at I1
    exact ⟨"tuple", iT, PySem.F.plainAttrs_tuple, sT, yT, ⟨_, e1, rfl⟩, fun b eb => by cases eb; exact ⟨_, e1, rfl⟩, fin mT q⟩⟩
end
def isSeq : D → Bool
  | .lst _ => true
  | .tup _ => true
  | _ => false
def eMth (k : D → D → Option D) (fo fe : Ex) : Ex := fun env c => (fo env c).bind fun d c1 => match isSeq d with
  | true => (fe env c1).bind fun e c2 => ofO (k d e) c2
  | false => .bad
/-- what a method tells of a list, of a tuple -/
structure OpM (φ : Fx) (rL rT : V → List V → Hp → VK → Prop) (k : D → D → Option D) : Prop where
  L : ∀ (ds : List D) (W : WX) (g : Gh) (σ : L2.St) (H : Hp) (c : C) (x y : V) (e : D) (Q : VK), g.is φ → CupAt g c H → (∀ a, g.O a → H a ≠ none) → RpS g H (.lst ds) x → RpS g H e y → Post W g (Rp g) σ H (ofO (k (.lst ds) e) c) Q → rL x [y] H Q
  T : ∀ (ds : List D) (W : WX) (g : Gh) (σ : L2.St) (H : Hp) (c : C) (x y : V) (e : D) (Q : VK), g.is φ → CupAt g c H → (∀ a, g.O a → H a ≠ none) → RpS g H (.tup ds) x → RpS g H e y → Post W g (Rp g) σ H (ofO (k (.tup ds) e) c) Q → rT x [y] H Q
section
variable {X : Cx} {φ : Fx} {W : WX} {m : List Nat} {o e : Expr} {fo fe : Ex} {name : Str} {apos cpos : Pos} {iL iT : String} {rL rT : V → List V → Hp → VK → Prop} {k : D → D → Option D}
theorem de_mth (sL : Slot "list" name iL) (yL : typeOf (.builtin iL) = pure (.type "method_descriptor")) (mL : MtR X iL rL) (sT : Slot "tuple" name iT) (yT : typeOf (.builtin iT) = pure (.type "method_descriptor")) (mT : MtR X iT rT) (op : OpM φ rL rT k)
    (ho : PE X o (tS φ W m fo)) (he : PE X e (tS φ W m fe)) (hbase : attributeBase o name X.env (eval o X.env) = eval o X.env := by rfl)
    (hfew : ((backTo cpos (starEach [e] X.env)).all (fun x => !x.1) && (backToKw cpos (keywordEach [] X.env)).all (fun x => x.1.isSome) && decide ([e].length + ([] : List Keyword).length + (if ([] : List Keyword).isEmpty then 0 else 1) < 30)) = true := by rfl)
    (hline : (apos.endLine == cpos.line) = true := by rfl) (hs : starEach [e] X.env = (false, eval e X.env) :: starEach [] X.env := by rfl) (hK : X.K = φ.K := by rfl) :
    PE X (.Call (.Attribute o name apos) [e] [] cpos) (tD φ W m (eMth k fo fe)) :=
  PE.imp (pe_mth sL yL mL sT yT mT ho (pa_cons he pa_nil hs) hbase hfew hline hs rfl) fun σ H Q ⟨g, env, c, ig, rel, p⟩ => by
    refine ⟨g, env, c, ig, rel, (Post.bind (T := RpS g) p).imp fun x H1 ⟨d, c1, k1, cu1, t1, p1⟩ => ?_⟩
    have rel1 := rel.cu k1 cu1
    cases d with
    | lst ds =>
      have t1' := t1
      obtain ⟨a, vs, rfl, n, hh, r⟩ := t1
      refine ⟨a, rfl, .inl ⟨⟨vs, .of hh⟩, g, env, c1, ig, rel1, (Post.bind (T := RpS g) p1).imp fun y H2 ⟨e', c2, k2, cu2, t2, p2⟩ => ?_⟩⟩
      exact op.L ds W g σ H2 c2 _ y e' Q ig cu2 (rel1.cu k2 cu2).trk (t1'.keep cu1 k2) t2 p2
    | tup ds =>
      have t1' := t1
      obtain ⟨a, vs, rfl, hh, r⟩ := t1
      refine ⟨a, rfl, .inr ⟨⟨vs, hh⟩, g, env, c1, ig, rel1, (Post.bind (T := RpS g) p1).imp fun y H2 ⟨e', c2, k2, cu2, t2, p2⟩ => ?_⟩⟩
      exact op.T ds W g σ H2 c2 _ y e' Q ig cu2 (rel1.cu k2 cu2).trk (RpS.keep cu1 k2 t1') t2 p2
    | _ => exact p1.elim
end
theorem o_count {φ : Fx} : OpM φ (rCntI φ.K) (rCntA φ.K) dCount where
  L ds W g σ H c x y e Q ig cu tr h h' p := by
    obtain ⟨a, vs, rfl, n, hs, r⟩ := h
    cases e with
    | int k =>
      change Post W g (Rp g) σ H (ofO ((dInts ds).map fun ns => .int (ns.count k)) c) Q at p
      cases q : dInts ds with
      | none => rw [q] at p; exact p.elim
      | some ns =>
        rw [q] at p
        have e := dInts_some q
        subst e
        exact ⟨a, ns, k, rfl, by rw [show y = .int k from h'], r.ints ▸ .of hs, p.val cu rfl⟩
    | _ => exact p.elim
  T ds W g σ H c x y e Q ig cu tr h h' p := by
    obtain ⟨a, vs, rfl, hs, r⟩ := h
    cases e with
    | int k =>
      change Post W g (Rp g) σ H (ofO ((dInts ds).map fun ns => .int (ns.count k)) c) Q at p
      cases q : dInts ds with
      | none => rw [q] at p; exact p.elim
      | some ns =>
        rw [q] at p
        have e := dInts_some q
        subst e
        exact ⟨a, ns, k, rfl, by rw [show y = .int k from h'], r.ints ▸ hs.t, p.val cu rfl⟩
    | _ => exact p.elim
def idxD (ns : List Int) (k : Int) : Option D := match decide (k ∈ ns) with
  | true => some (.int (ns.idxOf k))
  | false => none
theorem o_index {φ : Fx} : OpM φ (rIdxL φ.K) (rIdxA φ.K) dIndex where
  L ds W g σ H c x y e Q ig cu tr h h' p := by
    obtain ⟨a, vs, rfl, n, hs, r⟩ := h
    cases e with
    | int k =>
      change Post W g (Rp g) σ H (ofO ((dInts ds).bind fun ns => idxD ns k) c) Q at p
      cases q : dInts ds with
      | none => rw [q] at p; exact p.elim
      | some ns =>
        rw [q] at p
        change Post W g (Rp g) σ H (ofO (idxD ns k) c) Q at p
        unfold idxD at p
        cases hd : decide (k ∈ ns) with
        | false => rw [hd] at p; exact p.elim
        | true =>
          rw [hd] at p
          have e := dInts_some q
          subst e
          exact ⟨a, ns, k, rfl, by rw [show y = .int k from h'], r.ints ▸ .of hs, of_decide_eq_true hd, p.val cu rfl⟩
    | _ => exact p.elim
  T ds W g σ H c x y e Q ig cu tr h h' p := by
    obtain ⟨a, vs, rfl, hs, r⟩ := h
    cases e with
    | int k =>
      change Post W g (Rp g) σ H (ofO ((dInts ds).bind fun ns => idxD ns k) c) Q at p
      cases q : dInts ds with
      | none => rw [q] at p; exact p.elim
      | some ns =>
        rw [q] at p
        change Post W g (Rp g) σ H (ofO (idxD ns k) c) Q at p
        unfold idxD at p
        cases hd : decide (k ∈ ns) with
        | false => rw [hd] at p; exact p.elim
        | true =>
          rw [hd] at p
          have e := dInts_some q
          subst e
          exact ⟨a, ns, k, rfl, by rw [show y = .int k from h'], r.ints ▸ hs.t, of_decide_eq_true hd, p.val cu rfl⟩
    | _ => exact p.elim
end DL

namespace DL
open PySem PySem.Spec PyProof.Rows L2

/-! ### sorted(set(t)), any number of ints -/
section
variable {P : Program} {w : World} {A : Around} {E : Value → Shared → Prop} {s : Shared} {a : Addr} {S : Int → Bool} {n : Nat}
theorem sorted_many {Q : Value → Shared → Prop} (R : SetR w s.heap a S n) (hh : A.handled = none) (hz : n ≤ sizeLine)
    (hQ : ∀ s' p (out : List Value) (c : Nat) (ns : List Int), (∀ b o, s.heap.get? b = some o → s'.heap.get? b = some o) → s'.gens = s.gens → s'.os = s.os → s.heap.objs.size ≤ p →
      s'.heap.get? p = some (seqObj "list" out.toArray c) → IntsAre out ns → ns.Pairwise (· < ·) → (∀ k, k ∈ ns ↔ S k = true) → ns.length = n → Q (.ref p) s') :
    wpAny (model P w) A (call (.builtin "sorted") [.ref a]) Q E s := by
  obtain ⟨o, es, ep, t, ho, hex, hd, g, nd, hm, hb, hf, hn, hr, hl⟩ := R
  refine Calls.call_function_entry kind_sorted plain_sorted entry_sorted (args_sorted1 _) ?_
  unfold Builtin.«sorted»
  refine wpAny_bind (m := checkCount "sorted" 1 1 _) (wpAny_pure ?_)
  refine wpAny_bind (collect_set (A := A.in1) hh ⟨o, ho, hex.1, hd⟩ hf hb hr hl fun s1 vs k1 hz1 g1 o1 pm => ?_)
  have hvl : vs.length = n := by rw [pm.length_eq, List.length_map, Array.length_toList]; exact hn
  have hI : IntsAre vs (vs.map Builtin.Re.reRawOf) := ints_of vs fun v hv => by
    obtain ⟨e, he, q⟩ := List.mem_map.mp (pm.mem_iff.mp hv)
    obtain ⟨k, tk, h1, _⟩ := g e he
    exact ⟨k, tk, q ▸ h1⟩
  have pk : (vs.map Builtin.Re.reRawOf).Perm (es.toList.map keyOf) := by
    have q := pm.map Builtin.Re.reRawOf
    rw [List.map_map] at q
    exact q
  have hzv : vs.length ≤ sizeLine := hvl ▸ hz
  refine wpAny_bind (wpAny_newList ?_ hzv)
  have hoL : (s1.heap.push (seqObj "list" vs.toArray 0)).get? s1.heap.objs.size = some (seqObj "list" vs.toArray 0) := Heap.get?_push_size _ rfl
  refine wpAny_bind (wpAny_holding (wpAny_call_entry slot_list_sort ⟨_, hoL, rfl⟩ entry_list_sort (SrtO.list_sort_ord SrtO.swo_int hoL hzv (fun h2 => SrtO.ints_sortable hI h2) fun out b1 b2 => ⟨_, rfl, ?_⟩) (args_list_sort _)))
  obtain ⟨a1, a2, a3⟩ := SrtO.ints_out hI b1 b2
  obtain ⟨c, hc⟩ := sortedHeap_at (vs := vs) (out := out.toArray) hoL
  have pn := a2.trans pk
  refine wpAny_pure ⟨_, rfl, hQ _ s1.heap.objs.size out c (out.map SrtO.iv) (fun b u e => ?_) g1 o1 hz1 hc a1 (lt_of_le_nodup _ a3 (pn.nodup_iff.mpr nd)) (fun k => by rw [pn.mem_iff, ← hm k]) ?_⟩
  · have q := k1 b u e
    have hlt := Heap.lt_size q
    show (sortedHeap (s1.heap.push (seqObj "list" vs.toArray 0)) s1.heap.objs.size vs out.toArray).get? b = some u
    rw [sortedHeap_old (Nat.ne_of_lt hlt) (by rw [size_push']; exact Nat.lt_succ_of_lt hlt)]
    exact Heap.get?_push_of_some _ q
  · rw [pn.length_eq, List.length_map, Array.length_toList]; exact hn
end
theorem sorted_inv {X : Cx} {pins : List (Addr × Obj)} {σ : L2.St} {H : Hp} {s : Shared} {a : Addr} {S : Int → Bool} {n : Nat} {Q : VK} (hc : X.calm = true) (I : Inv X pins σ H s) (R : SetR X.w s.heap a S n) (hz : n ≤ 100000)
    (q : ∀ (ms : List Int) (p : Addr), ms.Pairwise (· < ·) → (∀ k : Int, k ∈ ms ↔ S k = true) → H p = none → Q (.ref p) (upd H p (.lst (ms.map V.int)))) :
    wpAny (model X.prog X.w) X.A (call (.builtin "sorted") [.ref a]) (EP X pins σ Q) X.xe s := by
  refine sorted_many R (I.ok.hd hc) (by rw [sizeLine_eq]; omega) fun s' p out c' ms k g o hp hgt hi hs hm hl => ?_
  have hlen : (ms.map V.int).length ≤ sizeLine := by rw [List.length_map, hl, sizeLine_eq]; omega
  have hn : H p = none := I.hok.fresh hp
  have J : Inv X pins σ (upd H p (.lst (ms.map V.int))) { s with heap := s'.heap, gens := s'.gens, drawn := s'.drawn, toks := s'.toks } :=
    I.call (ch := []) (Un.laid k hp hn) (I.hok.laid k hp ⟨hlen, out, c', vals_of_ints hi, hgt⟩) (by rw [g]; exact I.bare) (fun _ z => nomatch z)
  have e : s' = { s with heap := s'.heap, gens := s'.gens, drawn := s'.drawn, toks := s'.toks } := by
    cases s'
    cases s
    cases o
    rfl
  rw [e]
  exact ⟨.ref p, _, J, rfl, q ms p hs hm hn⟩
section
variable {X : Cx} {a : Expr} {ta : TE}
def tSortSet (K : PySem.W.Frag) (ta : TE) : TE := fun σ H Q => ta σ H fun x H1 => ∃ (l : Addr) (ns : List Int), x = .ref l ∧ SqT K H1 l (ns.map V.int) ∧ ns.length ≤ 4000 ∧
  ∀ (ms : List Int) (p : Addr), ms.Pairwise (· < ·) → (∀ k : Int, k ∈ ms ↔ k ∈ ns) → H1 p = none → Q (.ref p) (upd H1 p (.lst (ms.map V.int)))
theorem pe_sortSet {p p2 q pos : Pos} (hc : X.calm = true) (hg : Gl X "sorted") (hm : X.mg "sorted" = none) (hg2 : Gl X "set") (hm2 : X.mg "set" = none) (ha : PE X a ta)
    (na : starEach [a] X.env = (false, eval a X.env) :: starEach [] X.env := by rfl) : PE X (.Call (.Name "sorted" p) [.Call (.Name "set" p2) [a] [] q] [] pos) (tSortSet X.K ta) := ⟨fun pins s σ H Q I h => by
  refine Call_ (ld_blt I hg hm PyProof.Rows.boot_sorted ?_)
  refine PyProof.Rows.callWith_builtin1 (PyProof.Rows.args_cons ?_ rfl) rfl rfl
  refine Call_ (ld_blt I hg2 hm2 boot_set ?_)
  refine PyProof.Rows.callWith_type1 (PyProof.Rows.args_cons (thn (ha.run pins s σ H _ I h) fun v s1 ⟨x, H1, I1, r1, q1⟩ => PyProof.Rows.args_nil ?_) na) na rfl
  obtain ⟨l, ns, rfl, hq, h1, q1⟩ := q1
  cases r1
  obtain ⟨its, r, pl, hz⟩ := I1.tuple hq
  have hb : ns.length + 1 < scanBound := Nat.lt_of_le_of_lt (Nat.succ_le_succ h1) (by decide)
  have hp : s1.heap.IsTuple l its.toArray := pl
  refine call_set_tupI ns (I1.ok.hd hc) hp (by simpa using intsAre_of r) hb fun h' tk c hS hle hk => ?_
  refine PyProof.Rows.args_nil ?_
  have I2 : Inv X pins σ H1 { s1 with heap := h', toks := tk } := I1.kept hk
  exact sorted_inv hc I2 hS (by omega) fun ms p hs hm hn => q1 ms p hs (fun k => (hm k).trans (decide_eq_true_iff)) hn⟩
end
/-! in plain Lean -/
def insU (x : Int) : List Int → List Int
  | [] => [x]
  | y :: ys => if x < y then x :: y :: ys else if x = y then y :: ys else y :: insU x ys
def usort (ns : List Int) : List Int := ns.foldr insU []
theorem mem_insU {x k : Int} : ∀ {l : List Int}, k ∈ insU x l ↔ k = x ∨ k ∈ l
  | [] => by simp [insU]
  | y :: ys => by
    unfold insU
    by_cases h : x < y
    · rw [if_pos h]; simp
    · rw [if_neg h]
      by_cases e : x = y
      · rw [if_pos e]; subst e; simp
      · rw [if_neg e, List.mem_cons, mem_insU, List.mem_cons]
        constructor
        · rintro (a | a | a)
          · exact .inr (.inl a)
          · exact .inl a
          · exact .inr (.inr a)
        · rintro (a | a | a)
          · exact .inr (.inl a)
          · exact .inl a
          · exact .inr (.inr a)
theorem insU_lt {x : Int} : ∀ {l : List Int}, l.Pairwise (· < ·) → (insU x l).Pairwise (· < ·)
  | [], _ => by simp [insU]
  | y :: ys, h => by
    obtain ⟨h1, h2⟩ := List.pairwise_cons.mp h
    unfold insU
    by_cases hx : x < y
    · rw [if_pos hx]
      refine List.pairwise_cons.mpr ⟨fun z hz => ?_, h⟩
      rcases List.mem_cons.mp hz with e | e
      · rw [e]; exact hx
      · have := h1 z e; omega
    · rw [if_neg hx]
      by_cases e : x = y
      · rw [if_pos e]; exact h
      · rw [if_neg e]
        refine List.pairwise_cons.mpr ⟨fun z hz => ?_, insU_lt h2⟩
        rcases mem_insU.mp hz with e' | e'
        · omega
        · exact h1 z e'
theorem usort_lt : ∀ ns : List Int, (usort ns).Pairwise (· < ·)
  | [] => List.Pairwise.nil
  | n :: ns => insU_lt (usort_lt ns)
theorem mem_usort {k : Int} : ∀ {ns : List Int}, k ∈ usort ns ↔ k ∈ ns
  | [] => Iff.rfl
  | n :: ns => mem_insU.trans ((or_congr_right mem_usort).trans List.mem_cons.symm)
theorem lt_unique : ∀ {l l' : List Int}, l.Pairwise (· < ·) → l'.Pairwise (· < ·) → (∀ k, k ∈ l ↔ k ∈ l') → l = l'
  | [], [], _, _, _ => rfl
  | [], y :: ys, _, _, h => by have := (h y).mpr List.mem_cons_self; cases this
  | x :: xs, [], _, _, h => by have := (h x).mp List.mem_cons_self; cases this
  | x :: xs, y :: ys, h1, h2, h => by
    obtain ⟨a1, a2⟩ := List.pairwise_cons.mp h1
    obtain ⟨b1, b2⟩ := List.pairwise_cons.mp h2
    have e : x = y := by
      rcases List.mem_cons.mp ((h x).mp List.mem_cons_self) with e | e
      · exact e
      · rcases List.mem_cons.mp ((h y).mpr List.mem_cons_self) with e' | e'
        · exact e'.symm
        · have u := b1 x e; have v := a1 y e'; omega
    subst e
    have : xs = ys := lt_unique a2 b2 fun k => by
      have q := h k
      rw [List.mem_cons, List.mem_cons] at q
      constructor
      · intro hk
        rcases q.mp (.inr hk) with z | z
        · have := a1 k hk; omega
        · exact z
      · intro hk
        rcases q.mpr (.inr hk) with z | z
        · have := b1 k hk; omega
        · exact z
    rw [this]
def ssD (ds : List D) : Option D := (dInts ds).bind fun ns => match decide (ns.length ≤ 4000) with
  | true => some (.lst ((usort ns).map D.int))
  | false => none
def dSortSet : D → Option D
  | .tup ds => ssD ds
  | _ => none
section
variable {X : Cx} {φ : Fx} {W : WX} {m : List Nat} {a : Expr} {fa : Ex}
theorem de_sortSet {p p2 q pos : Pos} (hm : X.mg "sorted" = none) (hm2 : X.mg "set" = none) (ha : PE X a (tS φ W m fa)) (hg : Gl X "sorted" := by rfl) (hg2 : Gl X "set" := by rfl)
    (na : starEach [a] X.env = (false, eval a X.env) :: starEach [] X.env := by rfl) (hc : X.calm = true := by rfl) (hK : X.K = φ.K := by rfl) :
    PE X (.Call (.Name "sorted" p) [.Call (.Name "set" p2) [a] [] q] [] pos) (tD φ W m (e1 dSortSet fa)) :=
  PE.imp (pe_sortSet hc hg hm hg2 hm2 ha na) fun σ H Q ⟨g, env, c, ig, rel, p⟩ => by
    refine ⟨g, env, c, ig, rel, (Post.bind (T := RpS g) p).imp fun x H1 ⟨d, c1, k1, cu1, t1, p1⟩ => ?_⟩
    have tr := (rel.cu k1 cu1).trk
    cases d with
    | tup ds =>
      obtain ⟨l, vs, rfl, hs, r⟩ := t1
      change Post W g (Rp g) σ H1 (ofO ((dInts ds).bind fun ns => match decide (ns.length ≤ 4000) with | true => some (.lst ((usort ns).map D.int)) | false => none) c1) Q at p1
      cases q : dInts ds with
      | none => rw [q] at p1; exact p1.elim
      | some ns =>
        rw [q] at p1
        change Post W g (Rp g) σ H1 (ofO (match decide (ns.length ≤ 4000) with | true => some (.lst ((usort ns).map D.int)) | false => none) c1) Q at p1
        have e := dInts_some q
        subst e
        cases hd : decide (ns.length ≤ 4000) with
        | false => rw [hd] at p1; exact p1.elim
        | true =>
          rw [hd] at p1
          refine ⟨l, ns, rfl, r.ints ▸ hs.t, of_decide_eq_true hd, fun ms p' hlt hmem hp => ?_⟩
          have e : ms = usort ns := lt_unique hlt (usort_lt ns) fun k => (hmem k).trans mem_usort.symm
          rw [e]
          exact p1 _ _ (Keep.new hp) (cu1.new hp) (new_lst tr hp (rpl_ints _))
    | _ => exact p1.elim
end
end DL

namespace DL
open PySem PySem.Spec PyProof.Rows L2

/-! ### x[::-1] of a list, of a tuple -/
theorem pick_back (xs : Array Value) : ((List.range xs.size).filterMap fun (m : Nat) => xs[(((xs.size : Int) - 1) + (m : Int) * (-1)).toNat]?).toArray = xs.toList.reverse.toArray := by
  have e : (fun (m : Nat) => xs[(((xs.size : Int) - 1) + (m : Int) * (-1)).toNat]?) = (fun j => xs[j]?) ∘ fun m => xs.size - 1 - m := by
    funext m
    have : (((xs.size : Int) - 1) + (m : Int) * (-1)).toNat = xs.size - 1 - m := by omega
    rw [this]; rfl
  rw [e, ← List.filterMap_map, PySem.W.krv_range, List.filterMap_reverse, PySem.W.krv_all]
theorem places_back (n : Nat) : Builtin.Slice.slicePlaces ((n : Int) - 1) (-1) (-1) = n := by
  unfold Builtin.Slice.slicePlaces
  have h1 : ¬ ((-1 : Int) > 0) := by omega
  simp only [h1, if_false]
  by_cases h : (n : Int) - 1 > -1
  · rw [if_pos h, show (-(-1) : Int) = 1 by decide, Int.ediv_one]; omega
  · rw [if_neg h]; omega
section
variable {prog : Program} {w : World} {A : Around} {E : Value → Shared → Prop} {s : Shared}
theorem sliceBack {sl : Addr} {vs : Value} {n : Nat} {Q : Int × Int × Nat → Shared → Prop} (hs : s.heap.IsSliceOf sl .none .none vs) (ps : IsPart vs (some (-1)))
    (h : Q ((n : Int) - 1, -1, n) s) : wpAny (model prog w) A (Builtin.Slice.sliceApplied (.ref sl) (pure (n : Int))) Q E s := by
  obtain ⟨os, hos, hcs, hds⟩ := id hs
  unfold Builtin.Slice.sliceApplied Builtin.Slice.sliceFields
  refine wpAny_bind (wpAny_bind (wpAny_field hos hds (x := .none) rfl (wpAny_bind (wpAny_field hos hds (x := .none) rfl (wpAny_bind (wpAny_field hos hds (x := vs) rfl (wpAny_pure ?_)))))))
  refine wpAny_bind (HT.slicePart_ ps ?_)
  show wpAny _ _ (if ((-1 : Int) == 0) = true then _ else _) _ _ s
  rw [if_neg (by decide)]
  refine wpAny_bind (HT.slicePart_ .none (wpAny_bind (HT.slicePart_ .none (wpAny_bind (wpAny_pure ?_)))))
  show wpAny _ _ (pure ((n : Int) - 1, (-1 : Int), Builtin.Slice.slicePlaces ((n : Int) - 1) (-1) (-1))) _ _ s
  rw [places_back]
  exact wpAny_pure h
theorem tuple_back {t sl : Addr} {items : Array Value} {vs : Value} {Q : Value → Shared → Prop} (ht : IsTup s.heap t items) (hs : s.heap.IsSliceOf sl .none .none vs) (ps : IsPart vs (some (-1)))
    (h : Q (.ref s.heap.objs.size) { s with heap := s.heap.push { cls := .type "tuple", data := .seq items.toList.reverse.toArray } })
    (hsz : items.size ≤ sizeLine) : wpAny (model prog w) A (getItem (.ref t) (.ref sl)) Q E s := by
  have htake : sizeOk (.seq items.toList.reverse.toArray) := by
    show items.toList.reverse.toArray.size ≤ sizeLine
    rw [List.size_toArray, List.length_reverse, Array.length_toList]
    exact hsz
  obtain ⟨os, hos, hcs, hds⟩ := id hs
  have hTs : s.TypeIs (.ref sl) "slice" := ⟨os, hos, hcs⟩
  unfold getItem
  try with_reducible refine wpAny_holding ?_
  first | refine wpAny_bind (wpAny_pure ?_) | skip
  refine wpAny_bind (wpAny_sequenceKey ht.typeIs (by decide) ?_)
  refine wpAny_bind (wpAny_callSpecial?_slot (name := Str.ofString "__getitem__") ht.typeIs PyProof.Rows.slot_tuple_getitem
    (wpAny_call_entry PyProof.Rows.slot_tuple_getitem ht.typeIs entry_tuple_getitem ?_ (args_tuple_getitem _ _)))
  show wpAny _ _ (Builtin.Tuple.tupleItemsOf (.ref t) >>= _) _ _ s
  refine wpAny_bind (tupleItemsOf_ ht ?_)
  refine wpAny_bind (wpAny_typeOf hTs ?_)
  rw [if_pos (by decide)]
  refine wpAny_bind (sliceBack hs ps ?_)
  show wpAny _ _ (if (((items.size : Int) - 1 == 0) && ((-1 : Int) == 1) && items.size == items.size) = true then _ else _) _ _ s
  rw [if_neg (by rw [show ((-1 : Int) == 1) = false by decide, Bool.and_false, Bool.false_and]; exact Bool.false_ne_true), pick_back]
  first
    | exact wpAny_bind (m := Builtin.Tuple.tupleExact _) (wpAny_newObj_type (wpAny_pure ⟨_, rfl, wpAny_pure h⟩) htake)
    | exact wpAny_bind (m := Builtin.Tuple.tupleExact _) (wpAny_newObj_type (wpAny_bind (wpAny_pure (wpAny_pure ⟨_, rfl, wpAny_pure h⟩))) htake)
    | exact wpAny_bind (wpAny_bind (m := Builtin.Tuple.tupleExact _) (wpAny_newObj_type (wpAny_pure (wpAny_pure ⟨_, rfl, wpAny_pure h⟩)) htake))
    | exact wpAny_bind (wpAny_bind (m := Builtin.Tuple.tupleExact _) (wpAny_newObj_type (wpAny_pure ⟨_, rfl, wpAny_pure h⟩) htake))
end
section
variable {X : Cx} {te : TE}
def tBack (K : PySem.W.Frag) (te : TE) : TE := fun σ H Q => te σ H fun x H1 => ∃ a xs, x = .ref a ∧
  ((SqL K H1 a xs ∧ ∀ p, H1 p = none → Q (.ref p) (upd H1 p (.lst xs.reverse))) ∨ (SqT K H1 a xs ∧ ∀ p o, H1 p = none → o.dict = none → Q (.ref p) (upT H1 p o xs.reverse)))
theorem pe_back {e : Expr} {k : Nat} {p1 p2 p3 pos : Pos} (he : PE X e te) : PE X (.Subscript e (.Slice none none (some (.UnaryOp .USub (.Constant (.int 1) k p1) p2)) p3) pos) (tBack X.K te) := ⟨fun pins s σ H Q I h => by
  refine Subscript_ (thn (he.run pins s σ H _ I h) fun v s1 ⟨x, H1, I1, r1, a, xs, ex, q1⟩ => ?_)
  subst ex
  cases r1
  have hst : PO X (some (.UnaryOp .USub (.Constant (.int 1) k p1) p2)) (tPart (tUn (rU fun i => .int (-i)) (tC (.int 1)))) := po_some (pe_un un_neg pe_int)
  refine wpAny_Slice (thn (po_none.run pins s1 σ H1 (fun o H2 => o = none ∧ H2 = H1) I1 ⟨rfl, rfl⟩) fun vl s2 ⟨l, H2, I2, pl, el, e2⟩ => ?_)
  subst el e2
  refine thn (po_none.run pins s2 σ H2 (fun o H3 => o = none ∧ H3 = H2) I2 ⟨rfl, rfl⟩) fun vu s3 ⟨u, H3, I3, pu, eu, e3⟩ => ?_
  subst eu e3
  refine thn (hst.run pins s3 σ H3 (fun o H4 => o = some (-1) ∧ H4 = H3) I3 ⟨1, rfl, -1, rfl, rfl, rfl⟩) fun vs s4 ⟨o, H4, I4, ps, eo, e4⟩ => ?_
  subst eo e4
  have I5 : Inv X pins σ H4 { s4 with heap := s4.heap.push { cls := .type "slice", data := .fields #[vl, vu, vs] } } := I4.kept (t' := s4.toks) fun b ob q => Heap.get?_push_of_some _ q
  show wpAny (model X.prog X.w) X.A (subscriptTail e (.Slice none none (some (.UnaryOp .USub (.Constant (.int 1) k p1) p2)) p3) (.ref a) (.ref s4.heap.objs.size)) (EP X pins σ Q) X.xe { s4 with heap := s4.heap.push { cls := .type "slice", data := .fields #[vl, vu, vs] } }
  rcases q1 with ⟨hx, q⟩ | ⟨hx, q⟩
  · obtain ⟨its, r, ht, hz⟩ := I5.list hx
    have hlen := r.length
    refine tail_any (ops := [.ref a, .ref s4.heap.objs.size]) ht.isList.typeIs (PySem.slot_list_getitem.lookup) ?_ (by with_unfolding_all rfl)
    refine wpAny_getItem_list_slice ht.isList (Heap.IsSliceOf.new _ vl vu vs) pl pu ps (by decide) ?_ (by rw [List.size_toArray]; omega)
    rw [PySem.W.krv_pick]
    refine ⟨.ref _, _, I5.laid (t' := s4.toks) (o := .lst xs.reverse) (fun b ob q => Heap.get?_push_of_some _ q) (Nat.le_refl _) ?_, rfl, q _ (fresh0 I5)⟩
    exact ⟨by rw [List.length_reverse]; exact hz, _, 0, r.reverse, Heap.get?_push_size _ rfl⟩
  · obtain ⟨its, r, ht, hz⟩ := I5.tuple hx
    have hlen := r.length
    cases pl; cases pu
    refine tail_any (ops := [.ref a, .ref s4.heap.objs.size]) ht.typeIs (PyProof.Rows.slot_tuple_getitem.lookup) ?_ (by with_unfolding_all rfl)
    refine tuple_back ht (Heap.IsSliceOf.new _ .none .none vs) ps ?_ (by rw [List.size_toArray]; omega)
    exact ⟨.ref _, _, lay_tup I5 r.reverse (by rw [List.length_reverse]; exact hz), rfl, q _ _ (fresh0 I5) rfl⟩⟩
end
def dRev : D → Option D
  | .lst ds => some (.lst ds.reverse)
  | .tup ds => some (.tup ds.reverse)
  | _ => none
theorem RpL.reverse {g : Gh} {H : Hp} : ∀ {ds : List D} {vs : List V}, RpL g H ds vs → RpL g H ds.reverse vs.reverse
  | [], _, h => by simp only [RpL] at h; subst h; rfl
  | d :: ds, _, ⟨w, ws, e, h, r⟩ => by
    subst e
    rw [List.reverse_cons, List.reverse_cons]
    exact r.reverse.append (.one h)
section
variable {X : Cx} {φ : Fx} {W : WX} {m : List Nat} {a : Expr} {fa : Ex}
theorem de_rev {k : Nat} {p1 p2 p3 pos : Pos} (ha : PE X a (tS φ W m fa)) (hK : X.K = φ.K := by rfl) : PE X (.Subscript a (.Slice none none (some (.UnaryOp .USub (.Constant (.int 1) k p1) p2)) p3) pos) (tD φ W m (e1 dRev fa)) :=
  PE.imp (pe_back ha) fun σ H Q ⟨g, env, c, ig, rel, p⟩ => by
    refine ⟨g, env, c, ig, rel, (Post.bind (T := RpS g) p).imp fun x H1 ⟨d, c1, k1, cu1, t1, p1⟩ => ?_⟩
    have tr := (rel.cu k1 cu1).trk
    cases d with
    | lst ds =>
      obtain ⟨l, vs, rfl, n, hs, r⟩ := t1
      exact ⟨l, vs, rfl, .inl ⟨.of hs, fun q hq => p1.new cu1 hq (new_lst tr hq r.reverse)⟩⟩
    | tup ds =>
      obtain ⟨l, vs, rfl, hs, r⟩ := t1
      exact ⟨l, vs, rfl, .inr ⟨hs.t, fun q o hq ho => p1.new cu1 hq (new_tup hq ho r.reverse)⟩⟩
    | _ => exact p1.elim
end
end DL

namespace DL
open PySem PySem.Spec PyProof.Rows L2

/-! ### enumerate of a tuple -/
section
set_option maxHeartbeats 1000000 in
theorem enum_new {v : Value} {o : Obj} {Hh : Heap → Prop} (B : Begins v o Hh) :
    Meets (Builtin.«enumerate.__new__» ⟨[.type "enumerate", v], []⟩) (fun _ R s => Hh s.heap ∧
      R (.ok (.ret (.ref (s.heap.push o).objs.size))) { s with heap := (s.heap.push o).push { cls := .type "enumerate", data := .fields #[.none, .bool false, .ref s.heap.objs.size, rawInt 0, .none, .none] } }) :=
  .of_wp fun prog w A R s h => by
    obtain ⟨hp, g, d, tk, os⟩ := s
    obtain ⟨h1, h⟩ := h
    have hsub := sub_enumerate
    have q1 : ∀ {A' : Around} {E : Value → Shared → Prop} {Q : Value → Shared → Prop}, Q (.ref hp.objs.size) ⟨hp.push o, g, d, tk, os⟩ → wpAny (model prog w) A' (pyIter v) Q E ⟨hp, g, d, tk, os⟩ :=
      fun q => B.iter prog w _ _ ⟨hp, g, d, tk, os⟩ _ h1 q
    wp_walk using q1
    refine wpAny_stack_any fun st => wpAny_pure ?_
    split
    · rename_i c _ _ _ _ _
      cases (c == Value.type "enumerate") <;> (wp_walk using q1; exact ⟨_, rfl, h⟩)
    · wp_walk using q1
      exact ⟨_, rfl, h⟩
end
section
variable {prog : Program} {w : World} {A : Around} {E : Value → Shared → Prop} {s : Shared}
theorem enum_call {v : Value} {o : Obj} {Hh : Heap → Prop} {Q : Value → Shared → Prop} (B : Begins v o Hh) (h1 : Hh s.heap)
    (h : ∀ h', IsEnum h' (s.heap.objs.size + 1) s.heap.objs.size 0 .none → h'.get? s.heap.objs.size = some o → (∀ b o, s.heap.get? b = some o → h'.get? b = some o) → Q (.ref (s.heap.objs.size + 1)) { s with heap := h' }) :
    wpAny (model prog w) A (call (.type "enumerate") [v]) Q E s := by
  refine callType_new F.called_enumerate (by decide) (F.typeCall_enumerate_1 _) (F.newCall_enumerate_1 _) (fun obj => F.args_object_init_2 obj _) F.entry_enumerate_new (enum_new B) ⟨h1, ?_⟩
  have hz : (s.heap.push o).objs.size = s.heap.objs.size + 1 := Heap.size_push ..
  show _ ∧ _
  rw [hz]
  have he : IsEnum ((s.heap.push o).push { cls := .type "enumerate", data := .fields #[.none, .bool false, .ref s.heap.objs.size, rawInt 0, .none, .none] }) (s.heap.objs.size + 1) s.heap.objs.size 0 .none := by
    have := Heap.get?_push_size (s.heap.push o) (o := { cls := .type "enumerate", data := .fields #[.none, .bool false, .ref s.heap.objs.size, rawInt 0, .none, .none] }) rfl
    rw [hz] at this; exact this
  exact ⟨⟨_, he, rfl⟩, h _ he (Heap.get?_push_of_some _ (Heap.get?_push_size _ B.free)) fun b o x => Heap.get?_push_of_some _ (Heap.get?_push_of_some _ x)⟩
end
def ItE (K : PySem.W.Frag) (a : Addr) : It :=
  ⟨fun i H => ∃ (xs : List V) (x : V), SqT K H a xs ∧ xs[i]? = some x, fun i H v H' => ∃ T x, v = .ref T ∧ H T = none ∧ H' = L2.upd H T (.tup [.int (i : Nat), x]) ∧ ∀ xs, SqT K H a xs → xs[i]? = some x, fun i H => ∃ xs : List V, SqT K H a xs ∧ i = xs.length⟩
theorem walk_enumT {K : PySem.W.Frag} {a : Addr} {xs : List V} : L2.Walk (ItE K a) xs.length (fun H => SqT K H a xs) (YPair (fun i => some (.int (i : Nat))) (fun i => xs[i]?)) := by
  refine ⟨fun i _ hi q => ⟨xs, xs[i], q, by simp [hi]⟩, fun _ q => ⟨xs, q, rfl⟩, fun i H v H' _ q y => ?_⟩
  obtain ⟨T, x, h1, h2, h3, h4⟩ := y
  exact ⟨T, .int (i : Nat), x, h1, h2, h3, rfl, h4 xs q⟩
theorem turn_enumT {P : Program} {w : World} {K : PySem.W.Frag} {elts : List Expr} {kk : Nat} {tpos : Pos} (a e it : Addr) :
    Turn P w K (.Tuple elts kk tpos) (ItE K a) [e, it] e (fun i h => (∃ old, IsEnum h e it ((i : Nat) : Int) old) ∧ h.IsTupleIter it a i ∧ e ≠ it ∧ a ≠ it ∧ e ≠ a) where
  mem := by simp
  obj := fun i h st b hb => by
    obtain ⟨⟨old, he⟩, ⟨o, ho, hc, hd⟩, _⟩ := st
    rcases (show b = e ∨ b = it by simpa using hb) with z | z
    · rw [z]; exact ⟨_, he, fun v q => nomatch q⟩
    · rw [z]; exact ⟨o, ho, fun v q => by rw [hd] at q; cases q⟩
  keep := fun i h h' st k => let ⟨⟨old, he⟩, hi, hne⟩ := st; ⟨⟨old, k e (by simp) _ he⟩, hi.at fun o q => k it (by simp) o q, hne⟩
  item := by
    intro X hP hw hK hc i pins s σ H E I hf st hg
    subst hP hw hK
    obtain ⟨⟨old, he⟩, hit, hne, hai, hea⟩ := st
    obtain ⟨xs, x, hq, hx⟩ := hg
    obtain ⟨its, rv, p, hz⟩ := I.tuple hq
    obtain ⟨u, hu, ru⟩ := rv.get hx
    have hel : e < s.heap.objs.size := Heap.lt_size he
    have hil : it < s.heap.objs.size := by obtain ⟨_, q, _⟩ := hit; exact Heap.lt_size q
    have hn : i < its.toArray.size := by
      rw [List.size_toArray, ← rv.length]
      exact (List.getElem?_eq_some_iff.mp hx).1
    refine wpAny_pyNext_enum_itemD (Draws.tuple (A := X.A.in1) (I.ok.hd hc) it a hai its.toArray) he ⟨hit, p⟩ hn hne (by simp [hne, hea]) fun u' h' tk hu' ho hst' hT hsz hk => ?_
    have eu : u' = u := by
      rw [List.getElem?_toArray, hu] at hu'
      exact (Option.some.inj hu').symm
    subst eu
    refine ⟨_, rfl, wpAny_letOwnedTupleGo_enum (s := { s with heap := h', toks := tk + 1 }) ho fun h'' he' sb => ?_⟩
    have hT2 : h''.get? s.heap.objs.size = some { cls := .type "tuple", data := .seq #[.int i tk, u'] } := (sb.2 _ (Nat.ne_of_gt hel)).trans hT
    have new : ObjOk X.prog X.w (L2.upd H s.heap.objs.size (.tup [.int (i : Nat), x])) h'' s.heap.objs.size (.tup [.int (i : Nat), x]) :=
      ⟨by show 2 ≤ sizeLine; decide, [.int i tk, u'], .cons ⟨_, rfl⟩ (.cons ru .nil), ⟨_, hT2, rfl, _, rfl⟩⟩
    have I1 : Inv X pins σ (L2.upd H s.heap.objs.size (.tup [.int (i : Nat), x])) { s with heap := h'', toks := tk + 1 } :=
      I.turnedNew (ch := [e, it]) (fun b ob hb q => (sb.2 b (fun z => hb (by simp [z]))).trans (hk b ob (fun z => hb (by simp [z])) (fun z => hb (by simp [z])) q)) hf (Nat.le_refl _) new
    refine ⟨.ref s.heap.objs.size, _, I1, rfl, ⟨_, x, rfl, fresh0 I, rfl, fun ys hy => by rw [I.tuple_inj hy hq]; exact hx⟩, ⟨⟨u', ?_⟩, hst'.1.at fun o q => (sb.2 it (Ne.symm hne)).trans q, hne, hai, hea⟩, fun b hb => ?_⟩
    · have e1 : ((i + 1 : Nat) : Int) = (i : Int) + 1 := by omega
      rw [e1]; exact he'
    · have hb' : b < s.heap.objs.size := by
        rcases (show b = e ∨ b = it by simpa using hb) with z | z
        · rw [z]; exact hel
        · rw [z]; exact hil
      rw [upd_ne (Nat.ne_of_lt hb')]
      exact (hf b hb).1
  done := by
    intro X hP hw hK hc i pins s σ H E I hf st hg
    subst hP hw hK
    obtain ⟨⟨old, he⟩, hit, hne, hai, hea⟩ := st
    obtain ⟨xs, hq, hx⟩ := hg
    obtain ⟨its, rv, p, hz⟩ := I.tuple hq
    obtain ⟨f0, f1, f2, f3, f4, f5⟩ := hf it (by simp)
    have hl := rv.length
    have e0 : its.toArray.size = i := by rw [List.size_toArray]; omega
    exact wpAny_pyNext_enum_endD (Draws.tuple (A := X.A.in1) (I.ok.hd hc) it a hai its.toArray) he ⟨e0 ▸ hit, p⟩ fun h' eb => ⟨rfl, I.turned (t' := s.toks) (fun b o hb q => eb b o hb q) f0 f1 f3 f4 f5⟩
  self := fun A i s Q E st h => let ⟨⟨_, he⟩, _⟩ := st; wpAny_pyIter_enum he h
def iEnumA (K : PySem.W.Frag) (ta : TA) : TI := fun σ H R => ta σ H fun vs H1 => ∃ a xs, vs = [.ref a] ∧ ((SqL K H1 a xs ∧ R (Ite K a) H1) ∨ (SqT K H1 a xs ∧ R (ItE K a) H1))
theorem pi_enumA {X : Cx} {e : Expr} {ta : TA} {p pos tpos : Pos} {elts : List Expr} {kk : Nat} (hg : Gl X "enumerate") (hm : X.mg "enumerate" = none) (ha : PA X [e] ta) (hs : starEach [e] X.env = [(false, eval e X.env)] := by rfl) :
    PI X (.Tuple elts kk tpos) (.Call (.Name "enumerate" p) [e] [] pos) (iEnumA X.K ta) := ⟨fun pins s σ H R I h => by
  refine Call_ (ld_blt I hg hm boot_enumerate (PyProof.Rows.callWith_type1 (thn (ha.run pos pins s σ H _ I h) fun us s1 ⟨vs, H1, I1, r1, a, xs, ex, q⟩ => ?_) hs rfl))
  subst ex
  cases r1 with
  | cons r rr =>
    cases rr
    cases r
    have fp : ∀ b ∈ [s1.heap.objs.size + 1, s1.heap.objs.size], FpOk X pins H1 b := fun b hb => by
      have hle : s1.heap.objs.size ≤ b := by
        rcases (show b = s1.heap.objs.size + 1 ∨ b = s1.heap.objs.size by simpa using hb) with z | z
        · rw [z]; exact Nat.le_add_right _ _
        · rw [z]; exact Nat.le_refl _
      exact I1.fpOk hle (I1.hok.fresh hle)
    rcases q with ⟨hq, q⟩ | ⟨hq, q⟩
    · obtain ⟨its, rv, p', hz⟩ := I1.list hq
      refine call_enumerate_list p'.isList fun h' he hit hsz hk => wpAny_pyIter_enum he ?_
      have I2 : Inv X pins σ H1 { s1 with heap := h' } := I1.kept (t' := s1.toks) hk
      exact ⟨s1.heap.objs.size + 1, [s1.heap.objs.size + 1, s1.heap.objs.size], _, _, H1, rfl, I2, turn_enum a (s1.heap.objs.size + 1) s1.heap.objs.size, ⟨⟨.none, he⟩, hit, Nat.succ_ne_self _⟩, fp, q⟩
    · obtain ⟨its, rv, p', hz⟩ := I1.tuple hq
      have hlt : a < s1.heap.objs.size := p'.lt
      refine enum_call (begins_tuple a its.toArray) p' fun h' he ho hk => wpAny_pyIter_enum he ?_
      have I2 : Inv X pins σ H1 { s1 with heap := h' } := I1.kept (t' := s1.toks) hk
      exact ⟨s1.heap.objs.size + 1, [s1.heap.objs.size + 1, s1.heap.objs.size], _, _, H1, rfl, I2, turn_enumT a (s1.heap.objs.size + 1) s1.heap.objs.size, ⟨⟨.none, he⟩, ⟨_, ho, rfl, rfl⟩, Nat.succ_ne_self _, Nat.ne_of_lt hlt, Nat.ne_of_gt (Nat.lt_succ_of_lt hlt)⟩, fp, q⟩⟩
def iEnum (f : Ex) : Exs := fun env c => (f env c).bind fun d c1 => match d with
  | .lst ds => .ok (dEnum 0 ds) c1
  | .tup ds => .ok (dEnum 0 ds) c1
  | _ => .bad
section
variable {X : Cx} {φ : Fx} {W : WX} {m : List Nat} {a : Expr} {fa : Ex} {p pos : Pos}
theorem di_enum {elts : List Expr} {kk : Nat} {tpos : Pos} (ha : PE X a (tD φ W m fa)) (hm : X.mg "enumerate" = none) (hg : Gl X "enumerate" := by rfl) (hs : starEach [a] X.env = [(false, eval a X.env)] := by rfl) (hs' : starEach (a :: []) X.env = (false, eval a X.env) :: starEach [] X.env := by rfl) (hK : X.K = φ.K := by rfl) :
    PI X (.Tuple elts kk tpos) (.Call (.Name "enumerate" p) [a] [] pos) (tI φ W m (iEnum fa)) :=
  PI.imp (pi_enumA hg hm (pa_cons ha pa_nil hs') hs) fun σ H R ⟨g, env, c, ig, rel, p⟩ => ⟨g, env, c, ig, rel, (Post.bind (T := Rp g) p).imp fun x H1 ⟨d, c1, k1, cu1, t1, p1⟩ => by
    have rel1 := rel.cu k1 cu1
    have eK : X.K = g.K := hK.trans ig.1.symm
    have fin : ∀ {ds : List D} {vs : List V} {i : Nat} {H3 H4 : Hp} {v : V}, RpL g H1 ds vs → Keep g.Ch H1 H3 → YPair (fun i => some (.int (i : Nat))) (fun i => vs[i]?) i H3 v H4 →
        Sam H3 H4 ∧ ∃ d, (dEnum 0 ds)[i]? = some d ∧ ∀ g' : Gh, g'.K = g.K → g'.fa = g.fa → g'.ca = g.ca → (∀ a, g'.O a → g.O a ∨ H1 a = none) → Rp g' H4 d v := fun hr q y => by
      obtain ⟨k, T, x, z, rfl, h1, h2, h3⟩ := YPair.new y
      obtain ⟨u, e1, f1⟩ := hr.get' h2
      refine ⟨k, _, dEnum_get _ 0 _ _ e1, fun g' q1 q2 q3 q4 => rp_pair h3 ?_ (f1.move (q.trans1 k.keep) q1 q2 q3 rel1.chO q4)⟩
      rw [← Option.some.inj h1, Nat.zero_add]
      rfl
    cases d with
    | lst ds =>
      obtain ⟨l, vs, rfl, n, hs, hr⟩ := t1
      refine ⟨l, vs, rfl, .inl ⟨.of hs, p1.val cu1 ?_⟩⟩
      show L2.Walk _ (dEnum 0 ds).length _ _
      rw [dEnum_length, ← hr.length, eK]
      exact L2.Walk.mono walk_enum (fun H q => .of (q.rdL (fun z => n (rel1.chO _ z)) hs)) fun i H v H' hi q y => fin hr q y
    | tup ds =>
      obtain ⟨l, vs, rfl, hs, hr⟩ := t1
      refine ⟨l, vs, rfl, .inr ⟨hs.t, p1.val cu1 ?_⟩⟩
      show L2.Walk _ (dEnum 0 ds).length _ _
      rw [dEnum_length, ← hr.length, eK]
      exact L2.Walk.mono walk_enumT (fun H q => q.rdT hs.t) fun i H v H' hi q y => fin hr q y
    | _ => exact p1.elim⟩
end
end DL

namespace DL
open PySem PySem.Spec PyProof.Rows L2

/-! ### dicts that nobody changes any more -/
/-- the value is a tracked dict, and stands still from here -/
def tStill (te : TE) : TE := fun σ H Q => te σ H fun x H1 => ∃ d kvs, x = .ref d ∧ H1 d = some (.dK kvs) ∧ ∀ od, Q x (L2.upd H1 d (.frz od (.dK kvs)))
section
variable {X : Cx} {e : Expr} {te : TE}
theorem pe_still (h : PE X e te) : PE X e (tStill te) := ⟨fun pins s σ H Q I hw => by
  refine thn (h.run pins s σ H _ I hw) fun v s1 ⟨x, H1, I1, r, d, kvs, ex, hd, q⟩ => ?_
  subst ex
  obtain ⟨od, I2⟩ := I1.lock hd (by trivial)
  exact ⟨_, _, I2, r, q od⟩⟩
end
/-- len of a list, a tuple, a dict -/
def rLenA (K : PySem.W.Frag) : List V → Hp → VK → Prop := fun xs H Q => (∃ p ys, xs = [.ref p] ∧ (SqL K H p ys ∨ SqT K H p ys) ∧ Q (.int ys.length) H) ∨ ∃ p kvs, xs = [.ref p] ∧ Rd H p (.dK kvs) ∧ Q (.int kvs.length) H
theorem call_lenA {X : Cx} : CallR X (.builtin "len") (rLenA X.K) := by
  intro pins s σ H xs us Q I r h
  rcases h with h | ⟨p, kvs, rfl, hd, q⟩
  · exact call_len_seq pins s σ H xs us Q I r h
  · rw [Vals.ref1 r]
    exact d_len I hd fun t s1 I1 => ⟨.int _, _, I1, ⟨t, rfl⟩, q⟩
def dLenA : D → Option D
  | .lst ds => some (.int ds.length)
  | .tup ds => some (.int ds.length)
  | .dct ks _ => some (.int ks.length)
  | _ => none
theorem o_lenA {φ : Fx} : Op1 φ (fun x => rLenA φ.K [x]) dLenA := fun W g σ H c x d Q ig cu tr h p => by
  cases d with
  | lst ds =>
    obtain ⟨a, vs, rfl, _, hs, hr⟩ := h
    exact .inl ⟨a, vs, rfl, .inl (.of hs), p.val cu (by rw [hr.length]; rfl)⟩
  | tup ds =>
    obtain ⟨a, vs, rfl, hs, hr⟩ := h
    exact .inl ⟨a, vs, rfl, .inr hs.t, p.val cu (by rw [hr.length]; rfl)⟩
  | dct ks ds =>
    obtain ⟨a, o, vs, rfl, hl, hs, hr⟩ := h
    exact .inr ⟨a, _, rfl, .inr ⟨o, hs⟩, p.val cu (by
      rw [List.length_zip, ← hl, Nat.min_self]; rfl)⟩
  | _ => exact p.elim
/-! what stands at a key -/
def atK : List Key → List D → Key → Option D
  | k :: ks, d :: ds, j => if k = j then some d else atK ks ds j
  | _, _, _ => none
theorem atK_val {g : Gh} {H : Hp} (j : Key) : ∀ {ks : List Key} {ds : List D} {vs : List V}, ks.length = vs.length → RpL g H ds vs →
    (atK ks ds j = none ∧ valV (ks.zip vs) j = none) ∨ ∃ d v, atK ks ds j = some d ∧ valV (ks.zip vs) j = some v ∧ Rp g H d v
  | [], [], _, _, h => by simp only [RpL] at h; subst h; exact .inl ⟨rfl, rfl⟩
  | [], d :: ds, vs, l, h => by
    obtain ⟨w, ws, e, _⟩ := h
    subst e; cases l
  | k :: ks, [], vs, l, h => by simp only [RpL] at h; subst h; cases l
  | k :: ks, d :: ds, vs, l, h => by
    obtain ⟨w, ws, e, hw, r⟩ := h
    subst e
    have e1 : atK (k :: ks) (d :: ds) j = if k = j then some d else atK ks ds j := rfl
    by_cases e : k = j
    · exact .inr ⟨d, w, by rw [e1, if_pos e], valV_pos (p := (k, w)) e, hw⟩
    · have q : valV ((k :: ks).zip (w :: ws)) j = valV (ks.zip ws) j := valV_neg (p := (k, w)) e
      rw [e1, if_neg e, q]
      exact atK_val j (Nat.succ.inj l) r
def keyD : D → Option Key
  | .int i => some (.inl i)
  | .str x => some (.inr x)
  | _ => none
theorem keyD_v {g : Gh} {H : Hp} {d : D} {v : V} {k : Key} (h : keyD d = some k) (r : Rp g H d v) : v = kV k := by
  cases d <;> first | (cases h; exact r) | cases h
/-- d.get(k, x), d a dict that stands still -/
def eGet2 (fo fk fx : Ex) : Ex := fun env c => (fo env c).bind fun d c1 => match d with
  | .dct ks ds => (fk env c1).bind fun k c2 => (fx env c2).bind fun x c3 => ofO ((keyD k).map fun j => (atK ks ds j).getD x) c3
  | _ => .bad
section
variable {X : Cx} {φ : Fx} {W : WX} {m : List Nat} {o e f : Expr} {fo fe ff : Ex} {apos cpos pos : Pos}
theorem de_get2 (hu : X.A.units + 1 < cLine) (ho : PE X o (tD φ W m fo)) (he : PE X e (tD φ W m fe)) (hf : PE X f (tD φ W m ff))
    (base : attributeBase o "get" X.env (eval o X.env) = eval o X.env := by rfl)
    (few : ((backTo cpos (starEach [e, f] X.env)).all (fun x => !x.1) && (backToKw cpos (keywordEach [] X.env)).all (fun x => x.1.isSome) && decide (([e, f] : List Expr).length + ([] : List Keyword).length + (if ([] : List Keyword).isEmpty then 0 else 1) < 30)) = true := by rfl)
    (line : (apos.endLine == cpos.line) = true := by rfl) (trees : backTo cpos (starEach [e, f] X.env) = [(false, eval e X.env), (false, eval f X.env)] := by rfl) :
    PE X (.Call (.Attribute o "get" apos) [e, f] [] cpos) (tD φ W m (eGet2 fo fe ff)) :=
  PE.imp (pe_dget2 hu ho he hf ⟨base, few, line, trees⟩) fun σ H Q ⟨g, env, c, ig, rel, p⟩ => by
    refine ⟨g, env, c, ig, rel, (Post.bind (T := Rp g) p).imp fun x H1 ⟨d, c1, k1, cu1, t1, p1⟩ => ?_⟩
    have rel1 := rel.cu k1 cu1
    cases d with
    | dct ks ds =>
      have t1' := t1
      obtain ⟨a, od, vs, rfl, hl, hs, hr⟩ := t1
      refine ⟨a, rfl, .inl ⟨_, .inr ⟨od, hs⟩⟩, g, env, c1, ig, rel1, (Post.bind (T := Rp g) p1).imp fun y H2 ⟨k, c2, k2, cu2, t2, p2⟩ => ?_⟩
      have rel2 := rel1.cu k2 cu2
      refine ⟨g, env, c2, ig, rel2, (Post.bind (T := Rp g) p2).imp fun z H3 ⟨x, c3, k3, cu3, t3, p3⟩ => ?_⟩
      cases hk : keyD k with
      | none => rw [hk] at p3; exact p3.elim
      | some j =>
        rw [hk] at p3
        obtain ⟨a', od', vs', ea, hl', hs', hr'⟩ := (t1'.keep k2 cu1.cu).keep k3 cu2.cu
        cases ea
        have ey := keyD_v hk t2
        subst ey
        refine ⟨_, .inl ⟨_, j, .inr ⟨od', hs'⟩, rfl, rfl⟩, ?_⟩
        rcases atK_val (g := g) j hl' hr' with ⟨h1, h2⟩ | ⟨d, v, h1, h2, h3⟩
        · rw [h2]
          have p4 : Post W g (Rp g) σ H3 (ofO (some ((atK ks ds j).getD x)) c3) Q := p3
          rw [h1] at p4
          exact p4.val cu3 t3
        · rw [h2]
          have p4 : Post W g (Rp g) σ H3 (ofO (some ((atK ks ds j).getD x)) c3) Q := p3
          rw [h1] at p4
          exact p4.val cu3 h3
    | _ => exact p1.elim
/-! the values, the items -/
def iVal (f : Ex) : Exs := fun env c => (f env c).bind fun d c1 => match d with
  | .dct _ ds => .ok ds c1
  | _ => .bad
def itD : List Key → List D → List D
  | k :: ks, d :: ds => .raw [(match k with | .inl i => .int i | .inr x => .str x), d] :: itD ks ds
  | _, _ => []
theorem itD_len : ∀ (ks : List Key) (ds : List D), ks.length = ds.length → (itD ks ds).length = ds.length
  | [], [], _ => rfl
  | k :: ks, d :: ds, h => by
    have := itD_len ks ds (Nat.succ.inj h)
    simp [itD, this]
theorem itD_get : ∀ (ks : List Key) (ds : List D) (i : Nat) (k : Key) (d : D), ks[i]? = some k → ds[i]? = some d → (itD ks ds)[i]? = some (.raw [(match k with | .inl i => .int i | .inr x => .str x), d])
  | [], _, _, _, _, h, _ => by simp at h
  | _ :: _, [], _, _, _, _, h => by simp at h
  | k' :: ks, d' :: ds, 0, k, d, h, h' => by
    simp at h h'
    subst h h'; rfl
  | k' :: ks, d' :: ds, i + 1, k, d, h, h' => by
    have := itD_get ks ds i k d (by simpa using h) (by simpa using h')
    simpa [itD] using this
def iItm (f : Ex) : Exs := fun env c => (f env c).bind fun d c1 => match d with
  | .dct ks ds => .ok (itD ks ds) c1
  | _ => .bad
theorem frz_keep {F : Addr → Prop} {H H' : Hp} {a : Addr} {o : Obj} {kvs : List (Key × V)} (k : Keep F H H') (h : H a = some (.frz o (.dK kvs))) : H' a = some (.frz o (.dK kvs)) := k.get a _ h (fun _ _ z => nomatch z)
theorem zip_get {ks : List Key} {vs : List V} {i : Nat} {k : Key} {x : V} (h : (ks.zip vs)[i]? = some (k, x)) : ks[i]? = some k ∧ vs[i]? = some x := by
  rw [List.getElem?_zip_eq_some] at h
  exact h
theorem di_val {tg : Expr} (ho : PE X o (tD φ W m fo)) (hbase : attributeBase o "values" X.env (eval o X.env) = eval o X.env := by rfl) (hline : (apos.endLine == cpos.line) = true := by rfl) :
    PI X tg (.Call (.Attribute o "values" apos) [] [] cpos) (tI φ W m (iVal fo)) :=
  PI.imp (pi_values ho hbase hline) fun σ H R ⟨g, env, c, ig, rel, p⟩ => ⟨g, env, c, ig, rel, (Post.bind (T := Rp g) p).imp fun x H1 ⟨d, c1, k1, cu1, t1, p1⟩ => by
    have rel1 := rel.cu k1 cu1
    cases d with
    | dct ks ds =>
      obtain ⟨a, od, vs, rfl, hl, hs, hr⟩ := t1
      refine ⟨a, od, _, rfl, hs, p1.val cu1 ?_⟩
      have hn : ds.length = (ks.zip vs).length := by rw [List.length_zip, hl, Nat.min_self, hr.length]
      show L2.Walk _ ds.length _ _
      rw [hn]
      exact L2.Walk.mono walk_values (fun H q => frz_keep q hs) fun i H x H' hi q y => by
        obtain ⟨e, k, hk⟩ := y
        subst e
        obtain ⟨u, e1, f1⟩ := hr.get' (zip_get hk).2
        exact ⟨.refl, u, e1, fun g' q1 q2 q3 q4 => f1.move q q1 q2 q3 rel1.chO q4⟩
    | _ => exact p1.elim⟩
theorem di_itm {elts : List Expr} {kk : Nat} {tpos : Pos} (ho : PE X o (tD φ W m fo)) (hbase : attributeBase o "items" X.env (eval o X.env) = eval o X.env := by rfl) (hline : (apos.endLine == cpos.line) = true := by rfl) :
    PI X (.Tuple elts kk tpos) (.Call (.Attribute o "items" apos) [] [] cpos) (tI φ W m (iItm fo)) :=
  PI.imp (pi_items ho hbase hline) fun σ H R ⟨g, env, c, ig, rel, p⟩ => ⟨g, env, c, ig, rel, (Post.bind (T := Rp g) p).imp fun x H1 ⟨d, c1, k1, cu1, t1, p1⟩ => by
    have rel1 := rel.cu k1 cu1
    cases d with
    | dct ks ds =>
      obtain ⟨a, od, vs, rfl, hl, hs, hr⟩ := t1
      refine ⟨a, od, _, rfl, hs, p1.val cu1 ?_⟩
      have hkd : ks.length = ds.length := by rw [hl, hr.length]
      have hn : (itD ks ds).length = (ks.zip vs).length := by rw [itD_len _ _ hkd, List.length_zip, hl, Nat.min_self, hr.length]
      show L2.Walk _ (itD ks ds).length _ _
      rw [hn]
      exact L2.Walk.mono walk_items (fun H q => frz_keep q hs) fun i H x H' hi q y => by
        obtain ⟨k, T, x, z, rfl, h1, h2, h3⟩ := YPair.new y
        obtain ⟨⟨key, v⟩, hz⟩ : ∃ p, (ks.zip vs)[i]? = some p := ⟨_, List.getElem?_eq_getElem hi⟩
        rw [hz] at h1 h2
        cases h1; cases h2
        obtain ⟨u, e1, f1⟩ := hr.get' (zip_get hz).2
        refine ⟨k, _, itD_get _ _ _ _ _ (zip_get hz).1 e1, fun g' q1 q2 q3 q4 => rp_pair h3 ?_ (f1.move (q.trans1 k.keep) q1 q2 q3 rel1.chO q4)⟩
        cases key <;> rfl
    | _ => exact p1.elim⟩
end
end DL

namespace DL
open PySem PySem.Spec PyProof.Rows L2

/-! ### the least of pairs of numbers -/
def pLt (p q : Int × Int) : Bool := decide (p.1 < q.1 ∨ (p.1 = q.1 ∧ p.2 < q.2))
def pD (p : Int × Int) : PyData := .tuple [.int p.1, .int p.2]
theorem pair_lt (p q : Int × Int) : PySem.W.dataLt (pD p) (pD q) = pLt p q := by
  obtain ⟨a, b⟩ := p
  obtain ⟨c, d⟩ := q
  have e1 : PySem.W.dataLt (pD (a, b)) (pD (c, d)) = PyProof.Rows.lexLt itemOrd (PySem.W.keyToksAll [.int a, .int b]) (PySem.W.keyToksAll [.int c, .int d]) := by
    simp only [PySem.W.dataLt, pD, PySem.W.keyToks]
  rw [e1]
  unfold pLt
  by_cases h : a = c
  · subst h
    rw [PySem.W.dataLt_all_yes (x := .int a) (y := .int a) (by simp [PySem.W.alike]) (by simp [PyData.eqv])]
    by_cases h2 : b = d
    · subst h2
      rw [PySem.W.dataLt_all_yes (x := .int b) (y := .int b) (by simp [PySem.W.alike]) (by simp [PyData.eqv])]
      rw [decide_eq_false (by omega)]
      simp only [PySem.W.keyToksAll]
      exact PyProof.Rows.lex_irrefl _
    · rw [PySem.W.dataLt_all_no (x := .int b) (y := .int d) (by simp [PySem.W.alike]) (by simp [PyData.eqv, h2]), PySem.W.dataLt_int]
      by_cases h3 : b < d
      · rw [decide_eq_true h3, decide_eq_true (.inr ⟨rfl, h3⟩)]
      · rw [decide_eq_false h3, decide_eq_false (by omega)]
  · rw [PySem.W.dataLt_all_no (x := .int a) (y := .int c) (by simp [PySem.W.alike]) (by simp [PyData.eqv, h]), PySem.W.dataLt_int]
    by_cases h3 : a < c
    · rw [decide_eq_true h3, decide_eq_true (.inl h3)]
    · rw [decide_eq_false h3, decide_eq_false (by omega)]
def minP (p : Int × Int) (ps : List (Int × Int)) : Int × Int := ps.foldl (fun a y => if pLt y a then y else a) p
theorem minP_mem : ∀ (ps : List (Int × Int)) (p : Int × Int), minP p ps ∈ p :: ps
  | [], p => List.mem_cons_self
  | q :: ps, p => by
    unfold minP
    rw [List.foldl_cons]
    have h := minP_mem ps (if pLt q p then q else p)
    unfold minP at h
    rcases List.mem_cons.mp h with e | e
    · rw [e]
      cases pLt q p
      · exact List.mem_cons_self
      · exact List.mem_cons_of_mem _ List.mem_cons_self
    · exact List.mem_cons_of_mem _ (List.mem_cons_of_mem _ e)
theorem pLt_false {p q : Int × Int} (h : pLt p q = false) : q.1 < p.1 ∨ (q.1 = p.1 ∧ q.2 ≤ p.2) := by
  have := of_decide_eq_false h
  omega
theorem minP_le : ∀ (ps : List (Int × Int)) (p : Int × Int), ∀ y ∈ p :: ps, pLt y (minP p ps) = false
  | [], p, y, h => by
    rw [List.mem_singleton.mp h]
    show pLt p p = false
    exact decide_eq_false (by omega)
  | q :: ps, p, y, h => by
    have ih := minP_le ps (if pLt q p then q else p)
    have e : minP p (q :: ps) = minP (if pLt q p then q else p) ps := by unfold minP; rw [List.foldl_cons]
    rw [e]
    rcases List.mem_cons.mp h with h | h
    · subst h
      have i0 := ih _ List.mem_cons_self
      cases hq : pLt q y with
      | false => rw [hq] at i0; exact i0
      | true =>
        rw [hq] at i0
        have a := of_decide_eq_true hq
        rw [if_pos rfl] at i0
        have b := pLt_false i0
        exact decide_eq_false (by rw [if_pos rfl]; omega)
    · rcases List.mem_cons.mp h with h | h
      · subst h
        have i0 := ih _ List.mem_cons_self
        cases hq : pLt y p with
        | true => rw [hq] at i0; exact i0
        | false =>
          rw [hq] at i0
          have a := pLt_false hq
          rw [if_neg Bool.false_ne_true] at i0
          have b := pLt_false i0
          exact decide_eq_false (by rw [if_neg Bool.false_ne_true]; omega)
      · exact ih y (List.mem_cons_of_mem _ h)
section
variable {prog : Program} {w : World} {A : Around} {E : Value → Shared → Prop} {s : Shared}
theorem min_at {l : Addr} {vs : Array Value} {x : PyData} {xs : List PyData} {as : List Addr} {Q : Value → Shared → Prop} (hh : A.handled = none) (hl : s.heap.IsList l vs) (hr : ReadsAll s.heap vs.toList (x :: xs) as) (ha : PySem.W.AlikeAll (x :: xs)) (hu : A.units + 1 + PyData.depthAll (x :: xs) < cLine)
    (h : ∀ v h' tk, vs[argBest (fun i j => PySem.W.dataLt ((x :: xs).getD i .none) ((x :: xs).getD j .none)) xs.length]? = some v → (∀ b o, s.heap.get? b = some o → h'.get? b = some o) → Q v { s with heap := h', toks := tk }) :
    wpAny (model prog w) A (call (.builtin "min") [.ref l]) Q E s := by
  have hn : vs.size = xs.length + 1 := PySem.W.readsAll_len hr
  refine call_min_walkH (PySem.W.iter_listW (A := A.in1) hh hl fun s₂ e W st hfp hw hk => ?_)
  refine ⟨_, _, _, _, _, _, _, s.heap, _, rfl, W, st, hfp, by omega, hw, hk, PySem.W.cmpIn_lt (A := A.in1) hr ha (by show A.units + 1 + _ < _; exact hu), fun v s' hP m => ?_⟩
  obtain ⟨h', tk, rfl, hk'⟩ := PySem.W.moved_old e rfl m
  have e1 : vs.size - 1 = xs.length := by omega
  rw [e1] at hP
  exact h v h' tk hP hk'
end
theorem fold_pD : ∀ (ps : List (Int × Int)) (p : Int × Int), (ps.map pD).foldl (fun a y => if PySem.W.dataLt y a = true then y else a) (pD p) = pD (minP p ps)
  | [], p => rfl
  | q :: ps, p => by
    rw [List.map_cons, List.foldl_cons, pair_lt]
    have e : minP p (q :: ps) = minP (if pLt q p then q else p) ps := by unfold minP; rw [List.foldl_cons]
    rw [e, ← fold_pD ps]
    cases pLt q p <;> rfl
theorem pD_inj {p q : Int × Int} (h : pD p = pD q) : p = q := by
  obtain ⟨a, b⟩ := p
  obtain ⟨c, d⟩ := q
  simp only [pD, PyData.tuple.injEq, List.cons.injEq, PyData.int.injEq, and_true] at h
  rw [h.1, h.2]
section
variable {X : Cx}
def rMinP (K : PySem.W.Frag) : List V → Hp → VK → Prop := fun vs H Q => ∃ (a : Addr) (xs : List V) (p : Int × Int) (ps : List (Int × Int)), vs = [.ref a] ∧ SqL K H a xs ∧
  Paired (fun v q => ∃ t, v = V.ref t ∧ SqT K H t [.int q.1, .int q.2]) xs (p :: ps) ∧ ∀ (i : Nat) (v : V), xs[i]? = some v → (p :: ps)[i]? = some (minP p ps) → Q v H
theorem dp_pairs {K : PySem.W.Frag} {H : Hp} : ∀ {xs : List V} {ps : List (Int × Int)}, Paired (fun v q => ∃ t, v = V.ref t ∧ SqT K H t [.int q.1, .int q.2]) xs ps → DpAll K H xs (ps.map pD)
  | _, _, .nil => .nil
  | _, _, .cons ⟨t, e, h⟩ r => by
    subst e
    exact .cons (.tup h (.cons (.int _) (.cons (.int _) .nil))) (dp_pairs r)
theorem depth_pairs : ∀ ps : List (Int × Int), PyData.depthAll (ps.map pD) ≤ 4
  | [] => by simp [PyData.depthAll]
  | p :: ps => by
    have := depth_pairs ps
    simp only [List.map_cons, PyData.depthAll, pD, PyData.depth]
    omega
theorem cr_minP (hc : X.calm = true) (hu : X.A.units + 64 < cLine) : CallR X (.builtin "min") (rMinP X.K) := by
  intro pins s σ H vs us Q I r h
  obtain ⟨a, xs, p, ps, rfl, hs, hp, q⟩ := h
  obtain ⟨its, rv, hl, _⟩ := I.list hs
  rw [Vals.ref1 r]
  obtain ⟨as, hr⟩ := Dp.readsAll I _ _ _ (dp_pairs hp) rv
  have hd := depth_pairs (p :: ps)
  refine min_at (I.ok.hd hc) hl.isList (by simpa using hr) ⟨fun x hx y hy => ?_, fun x hx => ?_⟩ (by
    have e : pD p :: List.map pD ps = List.map pD (p :: ps) := rfl
    rw [e]; omega) fun v h' tk hv hk => ?_
  · obtain ⟨u, _, rfl⟩ := List.mem_map.mp (show x ∈ List.map pD (p :: ps) from hx)
    obtain ⟨u', _, rfl⟩ := List.mem_map.mp (show y ∈ List.map pD (p :: ps) from hy)
    simp [pD, PySem.W.alike, PySem.W.alikeAll]
  · obtain ⟨u, _, rfl⟩ := List.mem_map.mp (show x ∈ List.map pD (p :: ps) from hx)
    simp [pD]
  · obtain ⟨f1, f2⟩ := PySem.W.argBest_fold PySem.W.dataLt PyData.none (pD p) (ps.map pD) (ps.map pD).length (Nat.le_refl _)
    rw [List.take_length, fold_pD] at f2
    generalize argBest (fun i j => PySem.W.dataLt ((pD p :: List.map pD ps).getD i .none) ((pD p :: List.map pD ps).getD j .none)) (ps.map pD).length = i0 at hv f1 f2
    rw [List.length_map] at f1
    have hi : i0 < (p :: ps).length := Nat.lt_succ_of_le f1
    have e1 : (p :: ps)[i0]? = some (minP p ps) := by
      rw [List.getElem?_eq_getElem hi]
      refine congrArg some (pD_inj ?_)
      rw [← f2]
      have e2 : pD p :: List.map pD ps = (p :: ps).map pD := rfl
      rw [e2, List.getD_eq_getElem?_getD, List.getElem?_map, List.getElem?_eq_getElem hi]
      rfl
    have hl2 : xs.length = (p :: ps).length := Paired.length hp
    have hx : xs[i0]? = some (xs[i0]'(by rw [hl2]; exact hi)) := List.getElem?_eq_getElem _
    obtain ⟨u, h1, h2⟩ := rv.get hx
    have e3 : u = v := by
      rw [List.getElem?_toArray, h1] at hv
      exact Option.some.inj hv
    subst e3
    exact ⟨_, H, I.kept hk, h2, q i0 _ hx e1⟩
end
/-- min of a list of numbers, of pairs of numbers -/
def asPair : D → Option (Int × Int)
  | .tup ds => match ds with
    | [.int a, .int b] => some (a, b)
    | _ => none
  | _ => none
def dPairs : List D → Option (List (Int × Int))
  | [] => some []
  | d :: ds => (asPair d).bind fun p => (dPairs ds).map fun ps => p :: ps
def prD (p : Int × Int) : D := .tup [.int p.1, .int p.2]
theorem asPair_some {d : D} {p : Int × Int} (h : asPair d = some p) : d = prD p := by
  cases d with
  | tup ds =>
    match ds, h with
    | [.int a, .int b], h => cases h; rfl
  | _ => cases h
theorem dPairs_some : ∀ {ds : List D} {ps : List (Int × Int)}, dPairs ds = some ps → ds = ps.map prD
  | [], ps, h => by cases h; rfl
  | d :: ds, ps, h => by
    have h' : ((asPair d).bind fun p => (dPairs ds).map fun ps => p :: ps) = some ps := h
    cases hp : asPair d with
    | none => rw [hp] at h'; cases h'
    | some p =>
      rw [hp] at h'
      cases hq : dPairs ds with
      | none => rw [hq] at h'; cases h'
      | some qs =>
        rw [hq] at h'
        cases h'
        rw [asPair_some hp, dPairs_some hq]; rfl
@[simp] theorem dPairs_map : ∀ ps : List (Int × Int), dPairs (ps.map prD) = some ps
  | [] => rfl
  | p :: ps => by
    show ((asPair (prD p)).bind fun q => (dPairs (ps.map prD)).map fun qs => q :: qs) = _
    rw [dPairs_map ps]; rfl
def dMinP (ds : List D) : Option D := match dPairs ds with
  | some (p :: ps) => some (prD (minP p ps))
  | _ => none
def dMinA : D → Option D
  | .lst ds => match dMinI ds with
    | some r => some r
    | none => dMinP ds
  | _ => none
theorem RpL.pairs {g : Gh} {H : Hp} : ∀ {ps : List (Int × Int)} {vs : List V}, RpL g H (ps.map prD) vs → Paired (fun v q => ∃ t, v = V.ref t ∧ SqT g.K H t [.int q.1, .int q.2]) vs ps
  | [], _, h => by simp only [List.map_nil, RpL] at h; subst h; exact .nil
  | p :: ps, _, h => by
    obtain ⟨w, ws, e, ⟨a, us, e2, hs, hr⟩, r⟩ := h
    subst e e2
    obtain ⟨x1, y1, f1, g1, z1⟩ := hr
    obtain ⟨x2, y2, f2, g2, z2⟩ := z1
    have g1' : x1 = V.int p.1 := g1
    have g2' : x2 = V.int p.2 := g2
    have z2' : y2 = [] := z2
    subst g1' g2' z2' f2 f1
    exact .cons ⟨a, rfl, hs.t⟩ r.pairs
theorem o_minA {φ : Fx} : Op1 φ (fun x H Q => rMin φ.K [x] H Q ∨ rMinP φ.K [x] H Q) dMinA := fun W g σ H c x d Q ig cu tr h p => by
  cases d with
  | lst ds =>
    have h0 := h
    obtain ⟨a, vs, rfl, n, hs, hr⟩ := h
    change Post W g (Rp g) σ H (ofO (match dMinI ds with | some r => some r | none => dMinP ds) c) Q at p
    cases hm : dMinI ds with
    | some r =>
      rw [hm] at p
      refine .inl (o_min (φ := φ) W g σ H c (.ref a) (.lst ds) Q ig cu tr h0 ?_)
      change Post W g (Rp g) σ H (ofO (dMinI ds) c) Q
      rw [hm]; exact p
    | none =>
      rw [hm] at p
      change Post W g (Rp g) σ H (ofO (match dPairs ds with | some (p :: ps) => some (prD (minP p ps)) | _ => none) c) Q at p
      cases hp : dPairs ds with
      | none => rw [hp] at p; exact p.elim
      | some l =>
        rw [hp] at p
        cases l with
        | nil => exact p.elim
        | cons q qs =>
          have e := dPairs_some hp
          subst e
          refine .inr ⟨a, vs, q, qs, rfl, .of hs, ig.1 ▸ hr.pairs, fun i v hv hi => ?_⟩
          obtain ⟨d, h1, h2⟩ := hr.get' hv
          rw [List.getElem?_map, hi] at h1
          cases h1
          exact p.val cu h2
  | _ => exact p.elim
theorem cr_minA {X : Cx} (hc : X.calm = true) (hu : X.A.units + 64 < cLine) : CallR X (.builtin "min") (fun vs H Q => rMin X.K vs H Q ∨ rMinP X.K vs H Q) := by
  intro pins s σ H vs us Q I r h
  rcases h with h | h
  · exact cr_min hc pins s σ H vs us Q I r h
  · exact cr_minP hc hu pins s σ H vs us Q I r h
end DL

namespace DL
open PySem PySem.Spec PyProof.Rows L2

/-! ### found = {}; for place, number in enumerate(numbers): found.setdefault(number, []).append(place); return found -/
def posAdd (n : Int) (i : Nat) : List (Int × List Int) → List (Int × List Int)
  | [] => [(n, [(i : Int)])]
  | e :: r => if e.1 = n then (e.1, e.2 ++ [(i : Int)]) :: r else e :: posAdd n i r
def posSt (ns : List Int) : Nat × List (Int × List Int) := ns.foldl (fun st n => (st.1 + 1, posAdd n st.1 st.2)) (0, [])
def posOf (ns : List Int) : List (Int × List Int) := (posSt ns).2
theorem posSt_one (ns : List Int) (n : Int) : posSt (ns ++ [n]) = ((posSt ns).1 + 1, posAdd n (posSt ns).1 (posSt ns).2) := by
  unfold posSt
  rw [List.foldl_append]
  rfl
theorem foldl_fst : ∀ (ns : List Int) (st : Nat × List (Int × List Int)), (ns.foldl (fun st n => (st.1 + 1, posAdd n st.1 st.2)) st).1 = st.1 + ns.length
  | [], st => rfl
  | n :: ns, st => by
    rw [List.foldl_cons, foldl_fst ns, List.length_cons]
    show st.1 + 1 + ns.length = _
    omega
theorem posSt_fst (ns : List Int) : (posSt ns).1 = ns.length := by
  unfold posSt
  rw [foldl_fst, Nat.zero_add]
theorem posOf_one (ns : List Int) (n : Int) : posOf (ns ++ [n]) = posAdd n ns.length (posOf ns) := by
  unfold posOf
  rw [posSt_one, posSt_fst]
theorem posAdd_len (n : Int) (i : Nat) : ∀ acc : List (Int × List Int), (posAdd n i acc).length ≤ acc.length + 1
  | [] => Nat.le_refl _
  | e :: r => by
    unfold posAdd
    split
    · simp
    · have := posAdd_len n i r
      simp only [List.length_cons]; omega
def posD (ns : List Int) : D := .dct ((posOf ns).map fun e => .inl e.1) ((posOf ns).map fun e => .lst (e.2.map D.int))
def posN (ns : List Int) : Option D := match decide (ns.length ≤ 100000) with
  | true => some (posD ns)
  | false => none
def posI : D → Option (List Int)
  | .tup ds => dInts ds
  | .lst ds => dInts ds
  | _ => none
def posB : Sx := fun env c => match decide (env.length = 4) with
  | true => (ofO (((env.getD 0 none).bind posI).bind posN) c).bind fun d c1 => .ok (.rt d) c1
  | false => .bad
/-- the dict at p, as far as it is built -/
structure PosAt (H : Hp) (p : Addr) (i : Nat) (acc : List (Int × List Int)) (H2 : Hp) (kvs : List (Key × V)) : Prop where
  at_ : H2 p = some (.dK kvs)
  rel : Paired (fun kv (e : Int × List Int) => kv.1 = (.inl e.1 : Key) ∧ e.2.length ≤ i ∧ ∃ q, kv.2 = V.ref q ∧ H q = none ∧ q ≠ p ∧ H2 q = some (.lst (e.2.map V.int))) kvs acc
  nd : (kvs.map (·.2)).Nodup
  len : acc.length ≤ i
abbrev PosR (H : Hp) (p : Addr) (i : Nat) (H2 : Hp) : Key × V → Int × List Int → Prop := fun kv e => kv.1 = (.inl e.1 : Key) ∧ e.2.length ≤ i ∧ ∃ q, kv.2 = V.ref q ∧ H q = none ∧ q ≠ p ∧ H2 q = some (.lst (e.2.map V.int))
theorem pos_keep {H H2 H3 : Hp} {p : Addr} {i j : Nat} (hij : i ≤ j) : ∀ {kvs : List (Key × V)} {acc : List (Int × List Int)}, Paired (PosR H p i H2) kvs acc → (∀ q xs, V.ref q ∈ kvs.map (·.2) → H2 q = some (.lst xs) → H3 q = some (.lst xs)) → Paired (PosR H p j H3) kvs acc
  | _, _, .nil, _ => .nil
  | kv :: kvs, _, .cons ⟨h1, h2, q, h3, h4, h5, h6⟩ t, k => .cons ⟨h1, Nat.le_trans h2 hij, q, h3, h4, h5, k q _ (by rw [List.map_cons, h3]; exact List.mem_cons_self) h6⟩ (pos_keep hij t fun q xs hq e => k q xs (List.mem_cons_of_mem _ hq) e)
theorem pos_hit {H H2 : Hp} {p : Addr} {i : Nat} {n : Int} : ∀ {kvs : List (Key × V)} {acc : List (Int × List Int)} {v : V}, Paired (PosR H p i H2) kvs acc → (kvs.map (·.2)).Nodup → valV kvs (.inl n) = some v →
    ∃ (q : Addr) (xs : List Int), v = .ref q ∧ H q = none ∧ q ≠ p ∧ xs.length ≤ i ∧ H2 q = some (.lst (xs.map V.int)) ∧ Paired (PosR H p (i + 1) (L2.upd H2 q (.lst (xs.map V.int ++ [.int (i : Int)])))) kvs (posAdd n i acc) ∧ (posAdd n i acc).length = acc.length
  | _, _, _, .nil, _, h => by rw [valV_nil] at h; cases h
  | kv :: kvs, e :: acc, v, .cons ⟨h1, h2, q, h3, h4, h5, h6⟩ t, nd, h => by
    rw [List.map_cons] at nd
    obtain ⟨n1, n2⟩ := List.nodup_cons.mp nd
    by_cases hn : e.1 = n
    · have hv : valV (kv :: kvs) (.inl n) = some kv.2 := valV_pos (by rw [h1, hn])
      rw [hv] at h
      cases h
      refine ⟨q, e.2, h3, h4, h5, h2, h6, ?_, ?_⟩
      · have e1 : posAdd n i (e :: acc) = (e.1, e.2 ++ [(i : Int)]) :: acc := by unfold posAdd; rw [if_pos hn]
        rw [e1]
        refine .cons ⟨h1, by rw [List.length_append]; exact Nat.succ_le_succ h2, q, h3, h4, h5, by rw [upd_same, List.map_append]; rfl⟩ (pos_keep (Nat.le_succ _) t fun q' xs hq' e' => ?_)
        rw [upd_ne (fun z => n1 (by rw [h3, ← z]; exact hq'))]
        exact e'
      · unfold posAdd; rw [if_pos hn]; rfl
    · have hv : valV (kv :: kvs) (.inl n) = valV kvs (.inl n) := valV_neg (by rw [h1]; intro z; cases z; exact hn rfl)
      rw [hv] at h
      obtain ⟨q', xs, a1, a2, a3, a4, a5, a6, a7⟩ := pos_hit t n2 h
      have e1 : posAdd n i (e :: acc) = e :: posAdd n i acc := by
        show (if e.1 = n then (e.1, e.2 ++ [(i : Int)]) :: acc else e :: posAdd n i acc) = _
        rw [if_neg hn]
      refine ⟨q', xs, a1, a2, a3, a4, a5, ?_, by rw [e1, List.length_cons, List.length_cons, a7]⟩
      rw [e1]
      refine .cons ⟨h1, Nat.le_succ_of_le h2, q, h3, h4, h5, ?_⟩ a6
      have hne : q ≠ q' := fun z => n1 (by
        have hm : v ∈ kvs.map (·.2) := by
          unfold valV at h
          cases hf : kvs.find? fun kv => decide (kv.1 = .inl n) with
          | none => rw [hf] at h; cases h
          | some w =>
            rw [hf] at h
            cases h
            exact List.mem_map.mpr ⟨w, List.mem_of_find?_eq_some hf, rfl⟩
        rw [h3, z, ← a1]; exact hm)
      rw [upd_ne hne]
      exact h6
theorem pos_miss {H H2 : Hp} {p : Addr} {i j : Nat} {n : Int} : ∀ {kvs : List (Key × V)} {acc : List (Int × List Int)}, Paired (PosR H p i H2) kvs acc → valV kvs (.inl n) = none → posAdd n j acc = acc ++ [(n, [(j : Int)])]
  | _, _, .nil, _ => rfl
  | kv :: kvs, e :: acc, .cons ⟨h1, _⟩ t, h => by
    have hn : ¬ e.1 = n := fun z => by
      rw [valV_pos (p := kv) (by rw [h1, z])] at h
      cases h
    rw [valV_neg (p := kv) (by rw [h1]; intro z; cases z; exact hn rfl)] at h
    have e1 : posAdd n j (e :: acc) = e :: posAdd n j acc := by
      show (if e.1 = n then (e.1, e.2 ++ [(j : Int)]) :: acc else e :: posAdd n j acc) = _
      rw [if_neg hn]
    rw [e1, pos_miss t h, List.cons_append]
theorem Paired.snoc {α β : Type} {F : α → β → Prop} : ∀ {xs : List α} {ys : List β} {x : α} {y : β}, Paired F xs ys → F x y → Paired F (xs ++ [x]) (ys ++ [y])
  | _, _, _, _, .nil, h => .cons h .nil
  | _, _, _, _, .cons h0 t, h => .cons h0 (Paired.snoc t h)
theorem pos_end {g : Gh} {H H2 : Hp} {p : Addr} {i : Nat} (hg : ∀ a, g.O a → H a ≠ none) : ∀ {kvs : List (Key × V)} {acc : List (Int × List Int)}, Paired (PosR H p i H2) kvs acc →
    RpL g H2 (acc.map fun e => .lst (e.2.map D.int)) (kvs.map (·.2)) ∧ kvs.map (·.1) = acc.map fun e => (.inl e.1 : Key)
  | _, _, .nil => ⟨rfl, rfl⟩
  | _, _, .cons ⟨h1, h2, q, h3, h4, h5, h6⟩ t => by
    obtain ⟨a, b⟩ := pos_end hg t
    exact ⟨⟨_, _, by rw [List.map_cons, h3], ⟨q, _, rfl, fun z => hg q z h4, h6, rpl_ints _⟩, a⟩, by rw [List.map_cons, List.map_cons, b, h1]⟩
theorem zip_self : ∀ kvs : List (Key × V), (kvs.map (·.1)).zip (kvs.map (·.2)) = kvs
  | [] => rfl
  | kv :: kvs => by rw [List.map_cons, List.map_cons, List.zip_cons_cons, zip_self kvs]
section
variable {φ : Fx} {W : WX} {K : PySem.W.Frag}
abbrev posBody (K : PySem.W.Frag) : TS := tSeq (tDrop (tBM K "list" rAppend (tDSetd (tVar 1) (tVar 3) (tLst tNil)) (tCons (tVar 2) tNil))) tNext
theorem pos_for {D : Ends} {J : It} {G : Hp → Prop} {ns : List Int} {σ1 : L2.St} {H H1 : Hp} {p : Addr} (w : L2.Walk J ns.length G (YPair (fun i => some (.int (i : Nat))) (fun i => (ns.map V.int)[i]?)))
    (hG : ∀ H', Sam H H' → G H') (hz : ns.length ≤ 100000) (hp : H p = none) (hl : σ1.length = 4) (h1 : σ1[1]? = some (some (.ref p))) (hH : H1 = L2.upd H p (.dK []))
    (hd : ∀ σ2 H2 kvs, σ2[1]? = some (some (.ref p)) → Sam H H2 → PosAt H p ns.length (posOf ns) H2 kvs → D.nx σ2 H2) :
    ∃ W : Nat → Nat → L2.St → Hp → Prop, (∃ m, W 0 m σ1 H1) ∧ ∀ i m σ H, W i m σ H →
      (J.stop i H ∧ D.nx σ H) ∨ (J.go i H ∧ ∃ N : L2.St → Hp → Prop, (∀ σ' H', N σ' H' → ∃ m', m' < m ∧ W (i + 1) m' σ' H') ∧ ∀ x H', J.yld i H x H' → (gTup K 2 (gCons (gName 2) (gCons (gName 3) gNil))) x σ H' fun σ2 H2 => (posBody K) { D with nx := N, ct := N, bk := D.nx } σ2 H2) := by
  subst hH
  refine for_it w (fun i σ2 H2 => σ2.length = 4 ∧ σ2[1]? = some (some (.ref p)) ∧ Sam H H2 ∧ ∃ kvs, PosAt H p i (posOf (ns.take i)) H2 kvs) ⟨hl, h1, .new hp, [], ⟨upd_same, .nil, List.Pairwise.nil, Nat.le_refl _⟩⟩ (fun i σ2 H2 _ q => hG H2 q.2.2.1) ?_ ?_
  · rintro i x σ2 H2 H3 hi ⟨ql, q1, qs, kvs, P⟩ y
    obtain ⟨k, T, x1, x2, rfl, e1, e2, hT⟩ := YPair.new y
    have e1' : V.int (i : Nat) = x1 := Option.some.inj e1
    subst e1'
    have e2' : x2 = .int (ns[i]) := by
      rw [List.getElem?_map, List.getElem?_eq_getElem hi] at e2
      exact (Option.some.inj e2).symm
    subst e2'
    refine ⟨T, _, rfl, .of hT, rfl, _, _, rfl, _, _, rfl, rfl, ?_⟩
    have g2 : ((σ2.set 2 (some (V.int (i : Nat)))).set 3 (some (V.int ns[i])))[1]? = some (some (.ref p)) := by
      rw [List.getElem?_set_ne (by decide), List.getElem?_set_ne (by decide)]; exact q1
    have g3 : ((σ2.set 2 (some (V.int (i : Nat)))).set 3 (some (V.int ns[i])))[3]? = some (some (V.int ns[i])) := by
      rw [List.getElem?_set_self (by rw [List.length_set, ql]; decide)]
    have g4 : ((σ2.set 2 (some (V.int (i : Nat)))).set 3 (some (V.int ns[i])))[2]? = some (some (V.int (i : Nat))) := by
      rw [List.getElem?_set_ne (by decide), List.getElem?_set_self (by rw [ql]; decide)]
    have glen : ((σ2.set 2 (some (V.int (i : Nat)))).set 3 (some (V.int ns[i]))).length = 4 := by rw [List.length_set, List.length_set, ql]
    have etake : posOf (ns.take (i + 1)) = posAdd ns[i] i (posOf (ns.take i)) := by
      rw [List.take_add_one, List.getElem?_eq_getElem hi]
      show posOf (ns.take i ++ [ns[i]]) = _
      rw [posOf_one, List.length_take, Nat.min_eq_left (Nat.le_of_lt hi)]
    have P3 : PosAt H p i (posOf (ns.take i)) H3 kvs := ⟨k _ _ P.at_, pos_keep (Nat.le_refl _) P.rel fun q xs _ e => k _ _ e, P.nd, P.len⟩
    have s3 : Sam H H3 := fun a o e => k a o (qs a o e)
    have hkl : kvs.length = (posOf (ns.take i)).length := Paired.length P.rel
    have hplen := P.len
    refine ⟨_, g2, p, rfl, .inl ⟨kvs, .inl P3.at_⟩, _, g3, Nat.zero_le _, fun p' hp' => ?_⟩
    have hpp : p ≠ p' := fun z => by rw [← z, P3.at_] at hp'; cases hp'
    refine ⟨kvs, .inl ns[i], by rw [upd_ne hpp]; exact P3.at_, rfl, by rw [sizeLine_eq]; omega, fun v hv => ?_, fun hv => ?_⟩
    · obtain ⟨q, xs, ev, hq0, hqp, hxl, hq, hR, hlen⟩ := pos_hit P3.rel P3.nd hv
      have hqp' : q ≠ p' := fun z => by rw [z, hp'] at hq; cases hq
      rw [ev]
      have hq' : L2.upd H3 p' (.lst []) q = some (.lst (xs.map V.int)) := by rw [upd_ne hqp']; exact hq
      refine ⟨.inl ⟨rfl, _, .of hq'⟩, _, g4, q, xs.map V.int, .int (i : Nat), rfl, rfl, hq', by rw [List.length_map, sizeLine_eq]; omega, ?_⟩
      refine ⟨glen, g2, fun a o e => ?_, kvs, ?_⟩
      · have h3 := s3 a o e
        rw [upd_ne (fun z => by rw [z, hq0] at e; cases e), upd_ne (fun z => by rw [z, hp'] at h3; cases h3)]
        exact h3
      · rw [etake]
        refine ⟨by rw [upd_ne hqp.symm, upd_ne hpp]; exact P3.at_, pos_keep (Nat.le_refl _) hR fun q' xs' hm e => ?_, P3.nd, by rw [hlen]; omega⟩
        by_cases hz : q' = q
        · subst hz
          rw [upd_same] at e ⊢
          exact e
        · rw [upd_ne hz] at e ⊢
          rw [upd_ne (fun z => by rw [z, hp'] at e; cases e)]
          exact e
    · have hp'0 : H p' = none := by
        cases hc : H p' with
        | none => rfl
        | some o => rw [s3 p' o hc] at hp'; cases hp'
      have h4 : L2.upd (L2.upd H3 p' (.lst [])) p (.dK (putK kvs (.inl ns[i]) (.ref p'))) p' = some (.lst []) := by rw [upd_ne hpp.symm, upd_same]
      refine ⟨.inl ⟨rfl, _, .of h4⟩, _, g4, p', [], .int (i : Nat), rfl, rfl, h4, by rw [sizeLine_eq]; decide, ?_⟩
      refine ⟨glen, g2, fun a o e => ?_, kvs ++ [(.inl ns[i], .ref p')], ?_⟩
      · have h3 := s3 a o e
        rw [upd_ne (fun z => by rw [z, hp'0] at e; cases e), upd_ne (fun z => by rw [z, hp] at e; cases e), upd_ne (fun z => by rw [z, hp'] at h3; cases h3)]
        exact h3
      · rw [etake, pos_miss P3.rel hv]
        refine ⟨by rw [upd_ne hpp, upd_same, putK_new _ hv], Paired.snoc (pos_keep (Nat.le_succ _) P3.rel fun q' xs' hm e => ?_) ⟨rfl, Nat.succ_le_succ (Nat.zero_le _), p', rfl, hp'0, hpp.symm, by rw [upd_same]; rfl⟩, ?_, by rw [List.length_append]; simp; omega⟩
        · rw [upd_ne (fun z => by rw [z, hp'] at e; cases e), upd_ne (fun z => by rw [z, P3.at_] at e; cases e), upd_ne (fun z => by rw [z, hp'] at e; cases e)]
          exact e
        · rw [List.map_append, List.nodup_append]
          refine ⟨P3.nd, by simp, fun a ha b hb => ?_⟩
          have hb' : b = .ref p' := by simpa using hb
          subst hb'
          intro z
          subst z
          have nope : ∀ {kvs : List (Key × V)} {acc : List (Int × List Int)}, Paired (PosR H p i H3) kvs acc → V.ref p' ∈ kvs.map (·.2) → False := by
            intro kvs acc r
            induction r with
            | nil => intro h; cases h
            | cons h t ih =>
              intro hm
              obtain ⟨_, _, q, h3, _, _, h6⟩ := h
              rw [List.map_cons] at hm
              rcases List.mem_cons.mp hm with e | e
              · rw [h3] at e
                cases e
                rw [hp'] at h6
                cases h6
              · exact ih e
          exact nope P3.rel ha
  · rintro σ2 H2 ⟨_, q1, qs, kvs, P⟩
    rw [List.take_length] at P
    exact hd σ2 H2 kvs q1 qs P
/-- its body reads as posB -/
theorem pos_run {D : Ends} {σ : L2.St} {H : Hp} (hK : K = φ.K) (h : tSt φ W [] [] posB D σ H) :
    tSeq (tAsg tDNewK (gName 1)) (tSeq (tFor (iEnumA K (tCons (tVar 0) tNil)) (gTup K 2 (gCons (gName 2) (gCons (gName 3) gNil))) (posBody K)) (tSeq (tRet (tStill (tVar 1))) tNext)) D σ H := by
  obtain ⟨g, env, c, ig, rel, p⟩ := h
  unfold posB at p
  cases hl : decide (env.length = 4) with
  | false => rw [hl] at p; exact p.elim
  | true =>
  have hlen : σ.length = 4 := by rw [← rel.len]; exact of_decide_eq_true hl
  rw [hl] at p
  cases hd : env.getD 0 none with
  | none => rw [hd] at p; exact p.elim
  | some d =>
  rw [hd] at p
  cases hi : posI d with
  | none =>
    have p' : SPost W g [] D σ H ((ofO ((posI d).bind posN) c).bind fun d c1 => .ok (.rt d) c1) := p
    rw [hi] at p'; exact p'.elim
  | some ns =>
  have p' : SPost W g [] D σ H ((ofO ((posI d).bind posN) c).bind fun d c1 => .ok (.rt d) c1) := p
  rw [hi] at p'
  have p2 : SPost W g [] D σ H ((ofO (match decide (ns.length ≤ 100000) with | true => some (posD ns) | false => none) c).bind fun d c1 => .ok (.rt d) c1) := p'
  cases hz : decide (ns.length ≤ 100000) with
  | false => rw [hz] at p2; exact p2.elim
  | true =>
  rw [hz] at p2
  have hz' := of_decide_eq_true hz
  obtain ⟨v0, hv0, hr0⟩ := rel.sh 0 d (by simp) (getD_some hd)
  intro q hq
  have h1 : (σ.set 1 (some (.ref q)))[1]? = some (some (.ref q)) := List.getElem?_set_self (by rw [hlen]; decide)
  have h0 : (σ.set 1 (some (.ref q)))[0]? = some (some v0) := by rw [List.getElem?_set_ne (by decide)]; exact hv0
  have l1 : (σ.set 1 (some (.ref q))).length = 4 := by rw [List.length_set]; exact hlen
  have fin : ∀ σ2 H2 kvs, σ2[1]? = some (some (.ref q)) → Sam H H2 → PosAt H q ns.length (posOf ns) H2 kvs → tSeq (tRet (tStill (tVar 1))) tNext D σ2 H2 := fun σ2 H2 kvs a1 a2 a3 => by
    refine ⟨_, a1, q, kvs, rfl, a3.at_, fun od => ?_⟩
    have s4 : Sam H (L2.upd H2 q (.frz od (.dK kvs))) := fun a o e => by
      rw [upd_ne (fun z => by rw [z, hq] at e; cases e)]
      exact a2 a o e
    have r4 : Paired (PosR H q ns.length (L2.upd H2 q (.frz od (.dK kvs)))) kvs (posOf ns) := pos_keep (Nat.le_refl _) a3.rel fun q' xs _ e => by
      rw [upd_ne (fun z => by rw [z, a3.at_] at e; cases e)]
      exact e
    obtain ⟨e1, e2⟩ := pos_end (g := g.out) (fun a z => rel.trk a (z.elim .inl False.elim)) r4
    refine p2 _ _ s4.keep (rel.cup.sam s4) ⟨q, od, kvs.map (·.2), rfl, ?_, ?_, e1⟩
    · rw [List.length_map, List.length_map, Paired.length a3.rel]
    · rw [← e2, zip_self, upd_same]
  have nq : ∀ a, H a ≠ none → a ≠ q := fun a z e => z (e ▸ hq)
  refine ⟨v0, h0, ?_⟩
  cases d with
  | tup ds =>
    obtain ⟨a, vs, rfl, hs, hr⟩ := hr0
    have e := dInts_some (show dInts ds = some ns from hi)
    subst e
    have ev := hr.ints
    subst ev
    have hs1 : SqN (L2.upd H q (.dK [])) a (ns.map V.int) := (Sam.new hq).keep (F := fun _ => False) |>.rdN hs
    refine ⟨a, ns.map V.int, rfl, .inr ⟨hs1.t, ?_⟩⟩
    refine pos_for (w := ?_) (G := fun H' => SqT K H' a (ns.map V.int)) (fun H' k => (k.keep (F := fun _ => False)).rdT hs.t) hz' hq l1 h1 rfl fin
    have w := walk_enumT (K := K) (a := a) (xs := ns.map V.int)
    rw [List.length_map] at w
    exact w
  | lst ds =>
    obtain ⟨a, vs, rfl, n, hs, hr⟩ := hr0
    have e := dInts_some (show dInts ds = some ns from hi)
    subst e
    have ev := hr.ints
    subst ev
    refine ⟨a, ns.map V.int, rfl, .inl ⟨.of (Sam.new hq a _ hs), ?_⟩⟩
    refine pos_for (w := ?_) (G := fun H' => SqL K H' a (ns.map V.int)) (fun H' k => .of (k a _ hs)) hz' hq l1 h1 rfl fin
    have w := walk_enum (K := K) (a := a) (xs := ns.map V.int)
    rw [List.length_map] at w
    exact w
  | _ => cases hi
end
end DL

namespace DL
open PySem PySem.Spec PyProof.Rows L2

/-! ### x in a list or tuple of any data -/
def rInQ (K : PySem.W.Frag) (neg : Bool) : R2 := fun x y H Q => ∃ d ds, Dp K H x d ∧ (Dp K H y (.list ds) ∨ Dp K H y (.tuple ds)) ∧ PyData.plainAll ds = true ∧ d.plain = true ∧ d.depth ≤ 50 ∧ Q (.bl (if neg then !(ds.any fun z => PyData.eqv z d) else ds.any fun z => PyData.eqv z d)) H
section
variable {X : Cx}
theorem op_inQ (hu : X.A.units + 64 < cLine) : OpR X (compareOp .In) (fun x y H Q => rIn X.K false x y H Q ∨ rInQ X.K false x y H Q) := by
  intro pins s σ H x y v u Q I rx ry h
  rcases h with h | ⟨d, ds, hd, he, p1, p2, p3, q⟩
  · exact op_in_seq pins s σ H x y v u Q I rx ry h
  · obtain ⟨as, r1⟩ := Dp.reads I d x v hd rx
    have hb : X.A.units + 1 + min (PyData.depthAll ds) d.depth < cLine := by
      have := Nat.min_le_right (PyData.depthAll ds) d.depth
      omega
    rcases he with he | he
    · obtain ⟨bs, r2⟩ := Dp.reads I _ y u he ry
      exact SeqAt.in_list_data r2 r1 p1 p2 hb ⟨.bl _, H, I, rfl, q⟩
    · obtain ⟨bs, r2⟩ := Dp.reads I _ y u he ry
      exact SeqAt.in_tuple_data r2 r1 p1 p2 hb ⟨.bl _, H, I, rfl, q⟩
theorem op_niQ (hu : X.A.units + 64 < cLine) : OpR X (compareOp .NotIn) (fun x y H Q => rIn X.K true x y H Q ∨ rInQ X.K true x y H Q) := by
  intro pins s σ H x y v u Q I rx ry h
  rcases h with h | ⟨d, ds, hd, he, p1, p2, p3, q⟩
  · exact op_notIn_seq pins s σ H x y v u Q I rx ry h
  · obtain ⟨as, r1⟩ := Dp.reads I d x v hd rx
    have hb : X.A.units + 1 + min (PyData.depthAll ds) d.depth < cLine := by
      have := Nat.min_le_right (PyData.depthAll ds) d.depth
      omega
    rcases he with he | he
    · obtain ⟨bs, r2⟩ := Dp.reads I _ y u he ry
      exact SeqAt.notIn_list_data r2 r1 p1 p2 hb ⟨.bl _, H, I, rfl, q⟩
    · obtain ⟨bs, r2⟩ := Dp.reads I _ y u he ry
      exact SeqAt.notIn_tuple_data r2 r1 p1 p2 hb ⟨.bl _, H, I, rfl, q⟩
end
def inOk (x : D) (ds : List D) : Bool := pure? x && (pureL? ds && (PyData.plainAll (pyL ds) && ((py x).plain && decide ((py x).depth ≤ 50))))
def inDeep (x y : D) : Option Bool := match y with
  | .lst ds => match inOk x ds with
    | true => some ((pyL ds).any fun z => PyData.eqv z (py x))
    | false => none
  | .tup ds => match inOk x ds with
    | true => some ((pyL ds).any fun z => PyData.eqv z (py x))
    | false => none
  | _ => none
def dInA (x y : D) : Option D := match dIn x y with
  | some r => some r
  | none => (inDeep x y).map .bl
def dNotInA (x y : D) : Option D := match dNotIn x y with
  | some r => some r
  | none => (inDeep x y).map fun b => .bl (!b)
theorem inDeep_run {φ : Fx} {g : Gh} {H : Hp} {x y : V} {d e : D} {b : Bool} (ig : g.is φ) (h : RpS g H d x) (h' : RpS g H e y) (q : inDeep d e = some b) :
    ∃ p ps, Dp φ.K H x p ∧ (Dp φ.K H y (.list ps) ∨ Dp φ.K H y (.tuple ps)) ∧ PyData.plainAll ps = true ∧ p.plain = true ∧ p.depth ≤ 50 ∧ b = ps.any fun z => PyData.eqv z p := by
  cases e with
  | lst ds =>
    have q' : (match inOk d ds with | true => some ((pyL ds).any fun z => PyData.eqv z (py d)) | false => none) = some b := q
    cases ho : inOk d ds with
    | false => rw [ho] at q'; cases q'
    | true =>
      rw [ho] at q'
      unfold inOk at ho
      simp only [Bool.and_eq_true, decide_eq_true_eq] at ho
      obtain ⟨o1, o2, o3, o4, o5⟩ := ho
      exact ⟨py d, pyL ds, ig.1 ▸ h.dp o1, .inl (ig.1 ▸ RpS.dp (d := .lst ds) o2 h'), o3, o4, o5, (Option.some.inj q').symm⟩
  | tup ds =>
    have q' : (match inOk d ds with | true => some ((pyL ds).any fun z => PyData.eqv z (py d)) | false => none) = some b := q
    cases ho : inOk d ds with
    | false => rw [ho] at q'; cases q'
    | true =>
      rw [ho] at q'
      unfold inOk at ho
      simp only [Bool.and_eq_true, decide_eq_true_eq] at ho
      obtain ⟨o1, o2, o3, o4, o5⟩ := ho
      exact ⟨py d, pyL ds, ig.1 ▸ h.dp o1, .inr (ig.1 ▸ RpS.dp (d := .tup ds) o2 h'), o3, o4, o5, (Option.some.inj q').symm⟩
  | _ => cases q
theorem o_inA {φ : Fx} : Op2 φ (fun x y H Q => rIn φ.K false x y H Q ∨ rInQ φ.K false x y H Q) dInA := fun W g σ H c x y d e Q ig cu tr h h' p => by
  change Post W g (Rp g) σ H (ofO (match dIn d e with | some r => some r | none => (inDeep d e).map .bl) c) Q at p
  cases q : dIn d e with
  | some r =>
    rw [q] at p
    refine .inl (o_in (φ := φ) W g σ H c x y d e Q ig cu tr h h' ?_)
    change Post W g (Rp g) σ H (ofO (dIn d e) c) Q
    rw [q]; exact p
  | none =>
    rw [q] at p
    cases qd : inDeep d e with
    | none => rw [qd] at p; exact p.elim
    | some b =>
      rw [qd] at p
      obtain ⟨a, ps, h1, h2, h3, h4, h5, rfl⟩ := inDeep_run ig h h' qd
      exact .inr ⟨a, ps, h1, h2, h3, h4, h5, p.val cu rfl⟩
theorem o_niA {φ : Fx} : Op2 φ (fun x y H Q => rIn φ.K true x y H Q ∨ rInQ φ.K true x y H Q) dNotInA := fun W g σ H c x y d e Q ig cu tr h h' p => by
  change Post W g (Rp g) σ H (ofO (match dNotIn d e with | some r => some r | none => (inDeep d e).map fun b => .bl (!b)) c) Q at p
  cases q : dNotIn d e with
  | some r =>
    rw [q] at p
    refine .inl (o_notIn (φ := φ) W g σ H c x y d e Q ig cu tr h h' ?_)
    change Post W g (Rp g) σ H (ofO (dNotIn d e) c) Q
    rw [q]; exact p
  | none =>
    rw [q] at p
    cases qd : inDeep d e with
    | none => rw [qd] at p; exact p.elim
    | some b =>
      rw [qd] at p
      obtain ⟨a, ps, h1, h2, h3, h4, h5, rfl⟩ := inDeep_run ig h h' qd
      exact .inr ⟨a, ps, h1, h2, h3, h4, h5, p.val cu rfl⟩
end DL

namespace DL
open PySem PySem.Spec PyProof.Rows L2

/-! ### evaluation of the plain functions -/
theorem bind_ok {α β : Type} (a : α) (c : C) (k : α → C → R β) : (R.ok a c).bind k = k a c := rfl
theorem bind_exc {α β : Type} (e : Nat) (c : C) (k : α → C → R β) : (R.exc e c : R α).bind k = .exc e c := rfl
theorem bind_bad {α β : Type} (k : α → C → R β) : (R.bad : R α).bind k = .bad := rfl
theorem bindB_ok {α β : Type} (a : α) (c : C) (k : α → C → R β) : (R.ok a c).bindB k = k a c := rfl
theorem ofO_some {α : Type} (a : α) (c : C) : ofO (some a) c = .ok a c := rfl
section
variable {env e1' : En} {c c1 c2 c3 : C} {a b d : Ex} {x y z : D}
theorem v_of {i : Nat} (h : env.getD i none = some x) : eV i env c = .ok x c := by unfold eV; rw [h]
theorem e1_of {f : D → Option D} (h : a env c = .ok x c1) (hf : f x = some y) : e1 f a env c = .ok y c1 := by unfold e1; rw [h, bind_ok, hf]; rfl
theorem e2_of {f : D → D → Option D} (h : a env c = .ok x c1) (h' : b env c1 = .ok y c2) (hf : f x y = some z) : e2 f a b env c = .ok z c2 := by unfold e2; rw [h, bind_ok, h', bind_ok, hf]; rfl
theorem eT_of {k : Bool} (h : a env c = .ok (.bl k) c1) : eT a env c = .ok k c1 := by unfold eT; rw [h]; rfl
theorem tNot_of {t : En → C → R Bool} {k : Bool} (h : t env c = .ok k c1) : DL.tNot t env c = .ok (!k) c1 := by unfold DL.tNot; rw [h]; rfl
theorem tAnd_of {t u : En → C → R Bool} {k j : Bool} (h : t env c = .ok k c1) (h' : k = true → u env c1 = .ok j c1) : DL.tAnd t u env c = .ok (k && j) c1 := by
  unfold DL.tAnd; rw [h, bind_ok]
  cases k with
  | true => exact h' rfl
  | false => rfl
theorem tOr_of {t u : En → C → R Bool} {k j : Bool} (h : t env c = .ok k c1) (h' : k = false → u env c1 = .ok j c1) : DL.tOr t u env c = .ok (k || j) c1 := by
  unfold DL.tOr; rw [h, bind_ok]
  cases k with
  | true => rfl
  | false => exact h' rfl
theorem eAnd_of {k j : Bool} (h : a env c = .ok (.bl k) c1) (h' : k = true → b env c1 = .ok (.bl j) c1) : eAnd a b env c = .ok (.bl (k && j)) c1 := by
  unfold eAnd; rw [eT_of h, bind_ok]
  cases k with
  | true => exact h' rfl
  | false => rfl
theorem eOr_of {k j : Bool} (h : a env c = .ok (.bl k) c1) (h' : k = false → b env c1 = .ok (.bl j) c1) : eOr a b env c = .ok (.bl (k || j)) c1 := by
  unfold eOr; rw [eT_of h, bind_ok]
  cases k with
  | true => rfl
  | false => exact h' rfl
theorem eNot_of {k : Bool} (h : a env c = .ok (.bl k) c1) : eNot a env c = .ok (.bl (!k)) c1 := by unfold eNot; rw [eT_of h]; rfl
theorem aC_of {r : Exs} {ds : List D} (h : a env c = .ok x c1) (h' : r env c1 = .ok ds c2) : aC a r env c = .ok (x :: ds) c2 := by unfold aC; rw [h, bind_ok, h']; rfl
theorem tup_of {r : Exs} {ds : List D} (h : r env c = .ok ds c1) (hr : room ds.length = true := by rfl) : eTup r env c = .ok (.tup ds) c1 := by unfold eTup; rw [h, bind_ok, hr]
theorem lst_of {r : Exs} {ds : List D} (h : r env c = .ok ds c1) (hr : room ds.length = true := by rfl) : eLst r env c = .ok (.lst ds) c1 := by unfold eLst; rw [h, bind_ok, hr]
theorem call_of {fn : List D → C → R D} {r : Exs} {ds : List D} (h : r env c = .ok ds c1) (hf : fn ds c1 = .ok x c2) : eCall fn r env c = .ok x c2 := by unfold eCall; rw [h, bind_ok, hf]
theorem callL_of {fn : List D → C → R D} {r : Exs} {ds : List D} (h : r env c = .ok ds c1) (hf : fn ds c1 = .ok x c2) (hp : plain x = true) : eCallL fn r env c = .ok x c2 := by unfold eCallL; rw [h, bind_ok, hf, bind_ok, hp]
theorem call0_of {fn : List D → C → R D} (hf : fn [] c = .ok x c2) : eCall0 fn env c = .ok x c2 := by unfold eCall0; rw [hf]
theorem seq_nx {s t : Sx} {r : R Fl} (h : s env c = .ok (.nx e1') c1) (h' : t e1' c1 = r) : sSeq s t env c = r := by unfold sSeq; rw [h, bind_ok]; exact h'
theorem seq_rt {s t : Sx} (h : s env c = .ok (.rt x) c1) : sSeq s t env c = .ok (.rt x) c1 := by unfold sSeq; rw [h, bind_ok]
theorem ret_of (h : a env c = .ok x c1) : sRet a env c = .ok (.rt x) c1 := by unfold sRet; rw [h]; rfl
theorem set_of {i : Nat} (h : a env c = .ok x c1) : sSet i a env c = .ok (.nx (env.set i (some x))) c1 := by unfold sSet; rw [h]; rfl
theorem drop_of (h : a env c = .ok x c1) : sDrop a env c = .ok (.nx env) c1 := by unfold sDrop; rw [h]; rfl
theorem if_t {t : En → C → R Bool} {p q : Sx} {r : R Fl} (h : t env c = .ok true c1) (h' : p env c1 = r) : sIf t p q env c = r := by unfold sIf; rw [h, bind_ok]; exact h'
theorem if_f {t : En → C → R Bool} {p q : Sx} {r : R Fl} (h : t env c = .ok false c1) (h' : q env c1 = r) : sIf t p q env c = r := by unfold sIf; rw [h, bind_ok]; exact h'
theorem eIf_t {α : Type} {t : En → C → R Bool} {p q : En → C → R α} {r : R α} (h : t env c = .ok true c1) (h' : p env c1 = r) : eIf t p q env c = r := by unfold eIf; rw [h, bind_ok]; exact h'
theorem eIf_f {α : Type} {t : En → C → R Bool} {p q : En → C → R α} {r : R α} (h : t env c = .ok false c1) (h' : q env c1 = r) : eIf t p q env c = r := by unfold eIf; rw [h, bind_ok]; exact h'
theorem def_rt {l : Nat} {s : Sx} {ds : List D} (h : s (ds.map some ++ List.replicate (l - ds.length) none) c = .ok (.rt x) c1) : dDef l s ds c = .ok x c1 := by unfold dDef; rw [h]
theorem def_nx {l : Nat} {s : Sx} {ds : List D} (h : s (ds.map some ++ List.replicate (l - ds.length) none) c = .ok (.nx e1') c1) : dDef l s ds c = .ok .non c1 := by unfold dDef; rw [h]
theorem ch_of {k k' : D → D → Option D} {p q : Bool} (ha : a env c = .ok x c1) (hb : b env c1 = .ok y c1) (hk : k x y = some (.bl p)) (hd : p = true → d env c1 = .ok z c1) (hk' : p = true → k' y z = some (.bl q)) : eCh k k' a b d env c = .ok (.bl (p && q)) c1 := by
  unfold eCh; rw [ha, bind_ok, hb, bind_ok, hk, ofO_some, bind_ok]
  cases p with
  | true => dsimp only; rw [hd rfl, bind_ok, hk' rfl]; rfl
  | false => rfl
theorem bd_of {g : Bd} (h : a env c = .ok x c1) (hg : g x env = some e1') : sBd g a env c = .ok (.nx e1') c1 := by unfold sBd; rw [h, bind_ok, hg]
theorem app_of {i : Nat} {ds : List D} (hi : env.getD i none = some (.lst ds)) (h : a env c = .ok x c1) (hr : room (ds.length + 1) = true) : sApp i a env c = .ok (.nx (env.set i (some (.lst (ds ++ [x]))))) c1 := by
  unfold sApp; rw [hi]
  simp only [h, bind_ok, hr]
theorem ext_of {i : Nat} {ds es : List D} (hi : env.getD i none = some (.lst ds)) (h : a env c = .ok (.lst es) c1) (hr : room (ds.length + es.length) = true) : sExt i a env c = .ok (.nx (env.set i (some (.lst (ds ++ es))))) c1 := by
  unfold sExt; rw [hi]
  simp only [h, bind_ok, hr]
theorem forget_nx {vs : List Nat} {s : Sx} (h : s env c = .ok (.nx e1') c1) : sForget vs s env c = .ok (.nx (wipeE e1' vs)) c1 := by unfold sForget; rw [h]
theorem forget_rt {vs : List Nat} {s : Sx} (h : s env c = .ok (.rt x) c1) : sForget vs s env c = .ok (.rt x) c1 := by unfold sForget; rw [h]
theorem seqI_of {ds : List D} (h : a env c = .ok x c1) (hd : dItems x = some ds) : iSeq a env c = .ok ds c1 := by unfold iSeq; rw [h, bind_ok, hd]; rfl
theorem rng_of {n : Int} (h : a env c = .ok (.int n) c1) (hn : -(2 ^ 62) ≤ n ∧ n < 2 ^ 62) : iRange1 a env c = .ok ((List.range n.toNat).map fun (i : Nat) => D.int i) c1 := by
  unfold iRange1; rw [h, bind_ok]
  show ofO (match decide (-(2 ^ 62) ≤ n ∧ n < 2 ^ 62) with | true => some ((List.range n.toNat).map fun (i : Nat) => D.int i) | false => none) c1 = _
  rw [decide_eq_true hn]; rfl
theorem zip_of {ds : List D} (h : a env c = .ok x c1) (h' : b env c1 = .ok y c2) (hd : dZip2 x y = some ds) : iZip a b env c = .ok ds c2 := by unfold iZip; rw [h, bind_ok, h', bind_ok, hd]; rfl
theorem sl_of {f : D → Option Int → Option Int → Option D} {l u : En → C → R (Option Int)} {lo hi : Option Int} (h : a env c = .ok x c1) (h1 : l env c1 = .ok lo c2) (h2 : u env c2 = .ok hi c3) (hf : f x lo hi = some y) : eSl f a l u env c = .ok y c3 := by
  unfold eSl; rw [h, bind_ok, h1, bind_ok, h2, bind_ok, hf]; rfl
theorem oS_of {i : Int} (h : a env c = .ok (.int i) c1) : oS a env c = .ok (some i) c1 := by unfold oS; rw [h, bind_ok]
theorem mth_of {k : D → D → Option D} (h : a env c = .ok x c1) (hx : isSeq x = true) (h' : b env c1 = .ok y c2) (hk : k x y = some z) : eMth k a b env c = .ok z c2 := by unfold eMth; rw [h, bind_ok, hx]; simp only [h', bind_ok, hk, ofO_some]
theorem for_of {it : Exs} {g : Bd} {s : Sx} {ds : List D} (h : it env c = .ok ds c1) {r : R Fl} (h' : forGo g s ds env c1 = r) : sFor it g s env c = r := by unfold sFor; rw [h, bind_ok]; exact h'
/-- a comprehension that leaves the cup alone -/
theorem lc_go {α : Type} {g : Bd} {t : En → C → R Bool} {el : Ex} {mk : α → D} {f : α → Bool} {q : α → D} : ∀ (xs : List α),
    (∀ x ∈ xs, ∃ e1, g (mk x) env = some e1 ∧ t e1 c = .ok (f x) c ∧ (f x = true → el e1 c = .ok (q x) c)) → lcGo env g t el (xs.map mk) c = .ok ((xs.filter f).map q) c
  | [], _ => rfl
  | x :: xs, h => by
    obtain ⟨e1, h1, h2, h3⟩ := h x List.mem_cons_self
    have ih := lc_go (f := f) (q := q) xs fun y hy => h y (List.mem_cons_of_mem _ hy)
    rw [List.map_cons]
    unfold lcGo
    rw [h1]
    simp only [h2, bindB_ok]
    cases hf : f x with
    | true =>
      simp only [h3 hf, bindB_ok, ih, bind_ok]
      rw [List.filter_cons, if_pos hf, List.map_cons]
    | false =>
      simp only [ih]
      rw [List.filter_cons, if_neg (by rw [hf]; exact Bool.false_ne_true)]
theorem lc_of {α : Type} {it : Exs} {own : List Nat} {g : Bd} {t : En → C → R Bool} {el : Ex} (mk : α → D) (f : α → Bool) (q : α → D) {xs : List α} (hi : it env c = .ok (xs.map mk) c1) (hr : room xs.length = true)
    (h : ∀ x ∈ xs, ∃ e1, g (mk x) (wipeE env own) = some e1 ∧ t e1 c1 = .ok (f x) c1 ∧ (f x = true → el e1 c1 = .ok (q x) c1)) : eLc it own g t el env c = .ok (.lst ((xs.filter f).map q)) c1 := by
  unfold eLc
  rw [hi, bind_ok, List.length_map, hr]
  simp only [lc_go xs h, bind_ok]
theorem lc_all {α : Type} {it : Exs} {own : List Nat} {g : Bd} {el : Ex} (mk : α → D) (q : α → D) {xs : List α} (hi : it env c = .ok (xs.map mk) c1) (hr : room xs.length = true)
    (h : ∀ x ∈ xs, ∃ e1, g (mk x) (wipeE env own) = some e1 ∧ el e1 c1 = .ok (q x) c1) : eLc it own g DL.tYes el env c = .ok (.lst (xs.map q)) c1 := by
  have := lc_of mk (fun _ => true) q (own := own) (g := g) (t := DL.tYes) (el := el) hi hr fun x hx => by
    obtain ⟨e1, h1, h2⟩ := h x hx
    exact ⟨e1, h1, rfl, fun _ => h2⟩
  rw [this, List.filter_eq_self.mpr fun _ _ => rfl]
end
theorem room_le {n : Nat} (h : n ≤ 16777216) : room n = true := Nat.ble_eq_true_of_le h
end DL
namespace DL
open PySem PySem.Spec PyProof.Rows L2
theorem par_of {env : En} {c c1 c2 : C} {i j : Nat} {a b : Ex} {x y : D} (h : a env c = .ok x c1) (h' : b env c1 = .ok y c2) : sPar i j a b env c = .ok (.nx ((env.set i (some x)).set j (some y))) c2 := by unfold sPar; rw [h, bind_ok, h']; rfl
theorem forGo_cons {g : Bd} {s : Sx} {d : D} {ds : List D} {env e1 e2 : En} {c c1 : C} {r : R Fl} (hg : g d env = some e1) (hs : s e1 c = .ok (.nx e2) c1) (h : forGo g s ds e2 c1 = r) : forGo g s (d :: ds) env c = r := by
  unfold forGo; rw [hg]; simp only [hs, bind_ok]; exact h
theorem forGo_rt {g : Bd} {s : Sx} {d x : D} {ds : List D} {env e1 : En} {c c1 : C} (hg : g d env = some e1) (hs : s e1 c = .ok (.rt x) c1) : forGo g s (d :: ds) env c = .ok (.rt x) c1 := by
  unfold forGo; rw [hg]; simp only [hs, bind_ok]
end DL

namespace DL
open PySem PySem.Spec PyProof.Rows L2

/-! ### small facts -/
theorem dBls_gen {α : Type} (f : α → Bool) : ∀ xs : List α, dBls (xs.map fun x => D.bl (f x)) = some (xs.map f) := fun xs => by
  have := dBls_map (xs.map f)
  rw [List.map_map] at this
  exact this
theorem dInts_gen {α : Type} (f : α → Int) : ∀ xs : List α, dInts (xs.map fun x => D.int (f x)) = some (xs.map f) := fun xs => by
  have := dInts_map (xs.map f)
  rw [List.map_map] at this
  exact this
theorem dAll_gen {α : Type} (f : α → Bool) (xs : List α) : dAll (.lst (xs.map fun x => D.bl (f x))) = some (.bl (xs.all f)) := by
  show ((dBls (xs.map fun x => D.bl (f x))).map fun bs => D.bl (bs.all id)) = _
  rw [dBls_gen, Option.map_some, List.all_map]; rfl
theorem dAny_gen {α : Type} (f : α → Bool) (xs : List α) : dAny (.lst (xs.map fun x => D.bl (f x))) = some (.bl (xs.any f)) := by
  show ((dBls (xs.map fun x => D.bl (f x))).map fun bs => D.bl (bs.any id)) = _
  rw [dBls_gen, Option.map_some, List.any_map]; rfl
theorem dSum_gen {α : Type} (f : α → Int) (xs : List α) : dSum (.lst (xs.map fun x => D.int (f x))) = some (.int (xs.map f).sum) := by
  show ((dInts (xs.map fun x => D.int (f x))).map fun ns => D.int ns.sum) = _
  rw [dInts_gen]; rfl
theorem dZip_gen {α β : Type} (f : α → D) (g : β → D) : ∀ (xs : List α) (ys : List β), dZip (xs.map f) (ys.map g) = (xs.zip ys).map fun q => D.raw [f q.1, g q.2]
  | [], _ => by simp [dZip]
  | _ :: _, [] => by simp [dZip]
  | x :: xs, y :: ys => by
    show D.raw [f x, g y] :: dZip (xs.map f) (ys.map g) = _
    rw [dZip_gen f g xs ys]; rfl
theorem rng_map (n : Nat) : (List.range ((n : Nat) : Int).toNat).map (fun (i : Nat) => D.int i) = (List.range n).map fun (i : Nat) => D.int i := by rw [Int.toNat_natCast]
theorem atI_nat {α : Type} (xs : List α) (i : Nat) (h : i < xs.length) : atI xs (i : Int) = xs[i]? := by
  show (ixN xs.length (i : Int)).bind (fun j => xs[j]?) = xs[i]?
  unfold ixN
  have e : ¬ ((i : Int) < 0) := by omega
  have e2 : (i : Int).toNat = i := Int.toNat_natCast i
  simp [e, e2, h]

/-! ### products, digits -/
def nprod : List Nat → Nat
  | [] => 1
  | m :: ms => m * nprod ms
theorem foldl_prod : ∀ (ms : List Nat) (a : Int), (ms.map fun (n : Nat) => (n : Int)).foldl (· * ·) a = a * (nprod ms : Nat)
  | [], a => by simp [nprod]
  | m :: ms, a => by
    rw [List.map_cons, List.foldl_cons, foldl_prod ms, nprod, Int.natCast_mul, Int.mul_assoc]
def digs : List Nat → Nat → List Nat
  | [], _ => []
  | m :: ms, k => (k % m) :: digs ms (k / m)
theorem digs_len : ∀ (ms : List Nat) (k : Nat), (digs ms k).length = ms.length
  | [], _ => rfl
  | m :: ms, k => by simp [digs, digs_len ms]
theorem flat_mul {α : Type} (G : Nat → List α) (m : Nat) : ∀ n : Nat, (List.range (m * n)).flatMap G = (List.range n).flatMap fun i => (List.range m).flatMap fun d => G (i * m + d)
  | 0 => by simp
  | n + 1 => by
    rw [Nat.mul_succ, List.range_add, List.flatMap_append, flat_mul G m n, List.range_succ, List.flatMap_append, List.flatMap_singleton, List.flatMap_map, Nat.mul_comm n m]
theorem flatMap_cg {α β : Type} {f g : α → List β} : ∀ l : List α, (∀ x ∈ l, f x = g x) → l.flatMap f = l.flatMap g
  | [], _ => rfl
  | x :: l, h => by rw [List.flatMap_cons, List.flatMap_cons, h x List.mem_cons_self, flatMap_cg l fun y hy => h y (List.mem_cons_of_mem _ hy)]
/-- one walk's integers, axis by axis -/
def grow (found : List Int) (p : Nat × Int) : List Int := (List.range p.1).flatMap fun (d : Nat) => found.map fun x => x + (d : Int) * p.2
def val (ps : List (Nat × Int)) (k : Nat) : Int := (((digs (ps.map (·.1)) k).zip ps).map fun q => (q.1 : Int) * q.2.2).sum
theorem grow_all : ∀ (ps : List (Nat × Int)) (found : List Int), (∀ p ∈ ps, 0 < p.1) → ps.foldl grow found = (List.range (nprod (ps.map (·.1)))).flatMap fun k => found.map fun x => x + val ps k
  | [], found, _ => by
    show found = (List.range 1).flatMap _
    rw [show List.range 1 = [0] from rfl, List.flatMap_singleton]
    have : (fun x : Int => x + val [] 0) = id := by funext x; show x + 0 = x; omega
    rw [this, List.map_id]
  | p :: ps, found, h => by
    have hp := h p List.mem_cons_self
    rw [List.foldl_cons, grow_all ps _ fun q hq => h q (List.mem_cons_of_mem _ hq), List.map_cons, nprod, flat_mul]
    congr 1
    funext i
    unfold grow
    rw [List.map_flatMap]
    have e : ∀ d ∈ List.range p.1, (found.map fun x => x + (d : Int) * p.2).map (fun x => x + val ps i) = found.map fun x => x + val (p :: ps) (i * p.1 + d) := fun d hd => by
      have hd' := List.mem_range.mp hd
      rw [List.map_map]
      congr 1
      funext x
      have e1 : val (p :: ps) (i * p.1 + d) = (d : Int) * p.2 + val ps i := by
        unfold val
        rw [List.map_cons, digs, List.zip_cons_cons, List.map_cons, List.sum_cons]
        have m1 : (i * p.1 + d) % p.1 = d := by rw [Nat.add_comm, Nat.add_mul_mod_self_right, Nat.mod_eq_of_lt hd']
        have m2 : (i * p.1 + d) / p.1 = i := by rw [Nat.add_comm, Nat.add_mul_div_right _ _ hp, Nat.div_eq_of_lt hd', Nat.zero_add]
        rw [m1, m2]
      show x + (d : Int) * p.2 + val ps i = _
      rw [e1]; omega
    exact flatMap_cg _ e
/-- all integers of a walk -/
def lst (s : Int) (ps : List (Nat × Int)) : List Int := (List.range (nprod (ps.map (·.1)))).map fun k => s + val ps k
theorem lst_grow (s : Int) (ps : List (Nat × Int)) (h : ∀ p ∈ ps, 0 < p.1) : ps.foldl grow [s] = lst s ps := by
  rw [grow_all ps [s] h]
  unfold lst
  generalize List.range (nprod (ps.map (·.1))) = l
  induction l with
  | nil => rfl
  | cons x l ih => rw [List.flatMap_cons, ih]; rfl
theorem grow_len (found : List Int) (p : Nat × Int) : (grow found p).length = p.1 * found.length := by
  unfold grow
  rw [List.length_flatMap]
  generalize hn : p.1 = n
  clear hn
  induction n with
  | zero => simp
  | succ n ih =>
    rw [List.range_succ, List.map_append, List.sum_append, ih, Nat.succ_mul]
    simp
end DL

namespace DL
open PySem PySem.Spec PyProof.Rows L2

/-! ### data without texts, not too deep -/
def nice : Nat → D → Bool
  | _, .non => true
  | _, .bl _ => true
  | _, .int _ => true
  | k + 1, .tup ds => ds.all (nice k)
  | k + 1, .lst ds => ds.all (nice k)
  | _, _ => false
theorem niceL {k : Nat} (ih : ∀ d, nice k d = true → pure? d = true ∧ (py d).canLay0 = true ∧ (py d).depth ≤ k) : ∀ ds : List D, ds.all (nice k) = true → pureL? ds = true ∧ PyData.canLayAll0 (pyL ds) = true ∧ PyData.depthAll (pyL ds) ≤ k
  | [], _ => ⟨rfl, by simp [pyL, PyData.canLayAll0], by simp [pyL, PyData.depthAll]⟩
  | d :: ds, h => by
    rw [List.all_cons, Bool.and_eq_true] at h
    obtain ⟨a1, a2, a3⟩ := ih d h.1
    obtain ⟨b1, b2, b3⟩ := niceL ih ds h.2
    refine ⟨by simp [pureL?, a1, b1], by simp [pyL, PyData.canLayAll0, a2, b2], ?_⟩
    simp only [pyL, PyData.depthAll]
    omega
theorem nice_all : ∀ (k : Nat) (d : D), nice k d = true → pure? d = true ∧ (py d).canLay0 = true ∧ (py d).depth ≤ k
  | k, .non, _ => ⟨rfl, by simp [py, PyData.canLay0], by simp [py, PyData.depth]⟩
  | k, .bl _, _ => ⟨rfl, by simp [py, PyData.canLay0], by simp [py, PyData.depth]⟩
  | k, .int _, _ => ⟨rfl, by simp [py, PyData.canLay0], by simp [py, PyData.depth]⟩
  | k + 1, .tup ds, h => by
    obtain ⟨a, b, c⟩ := niceL (nice_all k) ds h
    refine ⟨by simpa [pure?] using a, by simpa [py, PyData.canLay0] using b, ?_⟩
    simp only [py, PyData.depth]; omega
  | k + 1, .lst ds, h => by
    obtain ⟨a, b, c⟩ := niceL (nice_all k) ds h
    refine ⟨by simpa [pure?] using a, by simpa [py, PyData.canLay0] using b, ?_⟩
    simp only [py, PyData.depth]; omega
  | 0, .tup _, h => by cases h
  | 0, .lst _, h => by cases h
  | k, .str _, h => by cases k <;> cases h
  | k, .raw _, h => by cases k <;> cases h
  | k, .dct _ _, h => by cases k <;> cases h
  | k, .fn _, h => by cases k <;> cases h
  | k, .cup, h => by cases k <;> cases h
  | k, .scr _, h => by cases k <;> cases h
theorem fit_nice {k : Nat} {d : D} (h : nice k d = true) (hk : k ≤ 64) : fit d = true := by
  obtain ⟨a, b, c⟩ := nice_all k d h
  unfold fit SeqAt.shaped
  rw [a, b, decide_eq_true (by omega)]; rfl
theorem dEq_of {x y : D} {b : Bool} (h : fit x = true) (h' : fit y = true) (e : eqB x y = b) : dEq x y = some (.bl b) := by unfold dEq; rw [h, h', e]; rfl
theorem dNe_of {x y : D} {b : Bool} (h : fit x = true) (h' : fit y = true) (e : eqB x y = b) : dNe x y = some (.bl (!b)) := by unfold dNe; rw [h, h', e]; rfl
theorem eqB_int (i j : Int) : eqB (.int i) (.int j) = (i == j) := by simp only [eqB, py, PyData.eqv]
theorem eqB_bl (i j : Bool) : eqB (.bl i) (.bl j) = (i == j) := by simp only [eqB, py, PyData.eqv]
theorem eqB_nil (ds : List D) : eqB (.lst ds) (.lst []) = ds.isEmpty := by
  cases ds with
  | nil => simp [eqB, py, pyL, PyData.eqv, PyData.eqvAll]
  | cons d ds => simp [eqB, py, pyL, PyData.eqv, PyData.eqvAll]
theorem fit_int (i : Int) : fit (.int i) = true := fit_nice (k := 0) rfl (by decide)
theorem fit_bl (i : Bool) : fit (.bl i) = true := fit_nice (k := 0) rfl (by decide)
theorem dEq_int (i j : Int) : dEq (.int i) (.int j) = some (.bl (i == j)) := dEq_of (fit_int i) (fit_int j) (eqB_int i j)
theorem dNe_int (i j : Int) : dNe (.int i) (.int j) = some (.bl (!(i == j))) := dNe_of (fit_int i) (fit_int j) (eqB_int i j)
theorem dEq_bl (i j : Bool) : dEq (.bl i) (.bl j) = some (.bl (i == j)) := dEq_of (fit_bl i) (fit_bl j) (eqB_bl i j)
theorem dNe_bl (i j : Bool) : dNe (.bl i) (.bl j) = some (.bl (!(i == j))) := dNe_of (fit_bl i) (fit_bl j) (eqB_bl i j)
theorem dEq_nil {k : Nat} {ds : List D} (h : nice k (.lst ds) = true) (hk : k ≤ 64) : dEq (.lst ds) (.lst []) = some (.bl ds.isEmpty) := dEq_of (fit_nice h hk) (fit_nice (k := 1) rfl (by decide)) (eqB_nil ds)
theorem dNe_nil {k : Nat} {ds : List D} (h : nice k (.lst ds) = true) (hk : k ≤ 64) : dNe (.lst ds) (.lst []) = some (.bl (!ds.isEmpty)) := dNe_of (fit_nice h hk) (fit_nice (k := 1) rfl (by decide)) (eqB_nil ds)
theorem nice_ints (ns : List Int) : (ns.map D.int).all (nice 0) = true := by
  rw [List.all_eq_true]
  intro d hd
  obtain ⟨n, _, rfl⟩ := List.mem_map.mp hd
  rfl

/-! ### where numbers stand -/
theorem snoc_ind {α : Type} {P : List α → Prop} (h0 : P []) (h1 : ∀ l x, P l → P (l ++ [x])) (l : List α) : P l := by
  have : ∀ l : List α, P l.reverse := fun l => by
    induction l with
    | nil => exact h0
    | cons x l ih => rw [List.reverse_cons]; exact h1 _ _ ih
  rw [← List.reverse_reverse l]
  exact this _
def occ (n : Int) (ns : List Int) : List Nat := (List.range ns.length).filter fun i => decide (ns[i]? = some n)
theorem occ_snoc (m n : Int) (ns : List Int) : occ m (ns ++ [n]) = occ m ns ++ if n = m then [ns.length] else [] := by
  unfold occ
  rw [List.length_append, List.length_singleton, List.range_succ, List.filter_append]
  congr 1
  · refine List.filter_congr fun i hi => ?_
    rw [List.getElem?_append_left (List.mem_range.mp hi)]
  · rw [List.filter_cons, List.filter_nil, List.getElem?_append_right (Nat.le_refl _), Nat.sub_self]
    by_cases h : n = m
    · subst h; simp
    · simp [h]
theorem mem_occ {n : Int} {ns : List Int} {i : Nat} : i ∈ occ n ns ↔ ns[i]? = some n := by
  unfold occ
  rw [List.mem_filter, List.mem_range, decide_eq_true_eq]
  exact ⟨fun h => h.2, fun h => ⟨(List.getElem?_eq_some_iff.mp h).1, h⟩⟩
theorem occ_lt (n : Int) (ns : List Int) : (occ n ns).Pairwise (· < ·) := List.Pairwise.filter _ List.pairwise_lt_range
theorem posAdd_keys (n : Int) (i : Nat) : ∀ acc : List (Int × List Int), (posAdd n i acc).map (·.1) = if n ∈ acc.map (·.1) then acc.map (·.1) else acc.map (·.1) ++ [n]
  | [] => rfl
  | e :: r => by
    have ih := posAdd_keys n i r
    show (if e.1 = n then (e.1, e.2 ++ [(i : Int)]) :: r else e :: posAdd n i r).map (·.1) = _
    by_cases h : e.1 = n
    · rw [if_pos h, List.map_cons, List.map_cons, if_pos (by rw [← h]; exact List.mem_cons_self)]
    · rw [if_neg h, List.map_cons, ih, List.map_cons]
      by_cases h2 : n ∈ r.map (·.1)
      · rw [if_pos h2, if_pos (List.mem_cons_of_mem _ h2)]
      · rw [if_neg h2, if_neg (fun z => (List.mem_cons.mp z).elim (fun q => h q.symm) h2)]; rfl
theorem posAdd_mem (n : Int) (i : Nat) : ∀ acc : List (Int × List Int), (acc.map (·.1)).Nodup → ∀ e ∈ posAdd n i acc, (e.1 ≠ n ∧ e ∈ acc) ∨ (e.1 = n ∧ ∃ l, (n, l) ∈ acc ∧ e.2 = l ++ [(i : Int)]) ∨ (e = (n, [(i : Int)]) ∧ n ∉ acc.map (·.1))
  | [], _, e, h => by
    have : e = (n, [(i : Int)]) := by simpa [posAdd] using h
    exact .inr (.inr ⟨this, by simp⟩)
  | a :: r, nd, e, h => by
    have h' : e ∈ (if a.1 = n then (a.1, a.2 ++ [(i : Int)]) :: r else a :: posAdd n i r) := h
    rw [List.map_cons, List.nodup_cons] at nd
    by_cases ha : a.1 = n
    · rw [if_pos ha] at h'
      rcases List.mem_cons.mp h' with z | z
      · exact .inr (.inl ⟨by rw [z]; exact ha, a.2, by rw [← ha]; exact List.mem_cons_self, by rw [z]⟩)
      · refine .inl ⟨fun q => nd.1 ?_, List.mem_cons_of_mem _ z⟩
        rw [ha, ← q]; exact List.mem_map.mpr ⟨e, z, rfl⟩
    · rw [if_neg ha] at h'
      rcases List.mem_cons.mp h' with z | z
      · exact .inl ⟨by rw [z]; exact ha, by rw [z]; exact List.mem_cons_self⟩
      · rcases posAdd_mem n i r nd.2 e z with q | ⟨q, l, q1, q2⟩ | ⟨q, q1⟩
        · exact .inl ⟨q.1, List.mem_cons_of_mem _ q.2⟩
        · exact .inr (.inl ⟨q, l, List.mem_cons_of_mem _ q1, q2⟩)
        · exact .inr (.inr ⟨q, fun w => (List.mem_cons.mp w).elim (fun u => ha u.symm) q1⟩)
structure PosOk (ns : List Int) (acc : List (Int × List Int)) : Prop where
  nd : (acc.map (·.1)).Nodup
  el : ∀ e ∈ acc, e.2 = (occ e.1 ns).map fun (i : Nat) => (i : Int)
  key : ∀ n, n ∈ acc.map (·.1) ↔ n ∈ ns
theorem occ_none {n : Int} {ns : List Int} (h : n ∉ ns) : occ n ns = [] := by
  unfold occ
  rw [List.filter_eq_nil_iff]
  intro i _
  rw [decide_eq_true_eq]
  exact fun q => h (List.mem_of_getElem? q)
theorem posOf_ok (ns : List Int) : PosOk ns (posOf ns) := by
  refine snoc_ind (P := fun ns => PosOk ns (posOf ns)) ⟨List.Pairwise.nil, fun e h => (nomatch h), fun n => Iff.rfl⟩ (fun ns n ih => ?_) ns
  rw [posOf_one]
  have hk := posAdd_keys n ns.length (posOf ns)
  refine ⟨?_, fun e he => ?_, fun m => ?_⟩
  · rw [hk]
    by_cases h : n ∈ (posOf ns).map (·.1)
    · rw [if_pos h]; exact ih.nd
    · rw [if_neg h, List.nodup_append]
      exact ⟨ih.nd, by simp, fun a ha b hb => by
        have : b = n := by simpa using hb
        rw [this]; exact fun z => h (z ▸ ha)⟩
  · rcases posAdd_mem n ns.length _ ih.nd e he with ⟨h1, h2⟩ | ⟨h1, l, h2, h3⟩ | ⟨h1, h2⟩
    · rw [occ_snoc, if_neg (fun z => h1 z.symm), List.append_nil]; exact ih.el e h2
    · have q : l = (occ n ns).map fun (i : Nat) => (i : Int) := ih.el _ h2
      rw [h3, h1, occ_snoc, if_pos rfl, List.map_append, q]; rfl
    · rw [h1, occ_snoc, if_pos rfl, occ_none (fun z => h2 ((ih.key n).mpr z))]; rfl
  · rw [hk]
    by_cases h : n ∈ (posOf ns).map (·.1)
    · rw [if_pos h, ih.key, List.mem_append]
      refine ⟨.inl, fun q => q.elim id fun w => ?_⟩
      have : m = n := by simpa using w
      rw [this]; exact (ih.key n).mp h
    · rw [if_neg h, List.mem_append, List.mem_append, ih.key]
end DL

namespace DL
open PySem PySem.Spec PyProof.Rows L2

/-! ### the first pair of places with one number -/
def Same (ns : List Int) (i j : Nat) : Prop := ∃ v, ns[i]? = some v ∧ ns[j]? = some v
structure FP (ns : List Int) (p q : Nat) : Prop where
  lt : p < q
  same : Same ns p q
  least : ∀ i j, i < j → Same ns i j → p < i ∨ (p = i ∧ q ≤ j)
def NoP (ns : List Int) : Prop := ∀ i j, i < j → ¬ Same ns i j
theorem FP.uniq {ns : List Int} {p q p' q' : Nat} (h : FP ns p q) (h' : FP ns p' q') : p = p' ∧ q = q' := by
  have a := h.least _ _ h'.lt h'.same
  have b := h'.least _ _ h.lt h.same
  omega
def hasLater (ns : List Int) (p : Nat) : Bool := decide (ns.getD p 0 ∈ ns.drop (p + 1))
def nextOf (ns : List Int) (p : Nat) : Nat := p + 1 + (ns.drop (p + 1)).idxOf (ns.getD p 0)
def lawFirst (ns : List Int) : Option (Nat × Nat) := ((List.range ns.length).find? (hasLater ns)).map fun p => (p, nextOf ns p)
theorem later_iff {ns : List Int} {p : Nat} (hp : p < ns.length) : hasLater ns p = true ↔ ∃ j, p < j ∧ Same ns p j := by
  have e : ns.getD p 0 = ns[p] := by rw [List.getD_eq_getElem?_getD, List.getElem?_eq_getElem hp]; rfl
  unfold hasLater
  rw [decide_eq_true_eq, e, List.mem_iff_getElem?]
  constructor
  · rintro ⟨k, hk⟩
    rw [List.getElem?_drop] at hk
    exact ⟨p + 1 + k, by omega, ns[p], List.getElem?_eq_getElem hp, hk⟩
  · rintro ⟨j, hj, v, h1, h2⟩
    rw [List.getElem?_eq_getElem hp] at h1
    refine ⟨j - (p + 1), ?_⟩
    rw [List.getElem?_drop, show p + 1 + (j - (p + 1)) = j by omega, h2, ← h1]
theorem idxOf_spec {v : Int} : ∀ {l : List Int}, v ∈ l → l[l.idxOf v]? = some v ∧ ∀ k, l[k]? = some v → l.idxOf v ≤ k
  | [], h => by cases h
  | a :: l, h => by
    by_cases e : a = v
    · subst e
      rw [List.idxOf_cons_self]
      exact ⟨rfl, fun k _ => Nat.zero_le k⟩
    · have hl : v ∈ l := (List.mem_cons.mp h).elim (fun q => absurd q.symm e) id
      obtain ⟨h1, h2⟩ := idxOf_spec hl
      have e1 : (a :: l).idxOf v = l.idxOf v + 1 := by rw [List.idxOf_cons, beq_eq_false_iff_ne.mpr e]; rfl
      rw [e1]
      refine ⟨by rw [List.getElem?_cons_succ]; exact h1, fun k hk => ?_⟩
      cases k with
      | zero => rw [List.getElem?_cons_zero] at hk; exact absurd (Option.some.inj hk) e
      | succ k => rw [List.getElem?_cons_succ] at hk; exact Nat.succ_le_succ (h2 k hk)
theorem lawFirst_some {ns : List Int} {p q : Nat} (h : lawFirst ns = some (p, q)) : FP ns p q := by
  unfold lawFirst at h
  cases hf : (List.range ns.length).find? (hasLater ns) with
  | none => rw [hf] at h; cases h
  | some p' =>
    rw [hf] at h
    have h' := Option.some.inj h
    have e1 : p' = p := congrArg Prod.fst h'
    have e2 : nextOf ns p' = q := congrArg Prod.snd h'
    subst e1
    have hp : p' < ns.length := List.mem_range.mp (List.mem_of_find?_eq_some hf)
    have hl := List.find?_some hf
    have e : ns.getD p' 0 = ns[p'] := by rw [List.getD_eq_getElem?_getD, List.getElem?_eq_getElem hp]; rfl
    have hm : ns[p'] ∈ ns.drop (p' + 1) := by
      have := of_decide_eq_true hl
      rw [e] at this; exact this
    obtain ⟨s1, s2⟩ := idxOf_spec hm
    have eq : q = p' + 1 + (ns.drop (p' + 1)).idxOf ns[p'] := by rw [← e2]; unfold nextOf; rw [e]
    rw [List.getElem?_drop, ← eq] at s1
    refine ⟨by omega, ⟨ns[p'], List.getElem?_eq_getElem hp, s1⟩, fun i j hij hs => ?_⟩
    have hi : i < ns.length := by
      obtain ⟨v, h1, _⟩ := hs
      exact (List.getElem?_eq_some_iff.mp h1).1
    have hil : hasLater ns i = true := (later_iff hi).mpr ⟨j, hij, hs⟩
    have hle : p' ≤ i := by
      rcases Nat.lt_or_ge i p' with z | z
      · have := find_before _ hf i (List.mem_range.mpr hi) z
        rw [hil] at this; cases this
      · exact z
    rcases Nat.lt_or_eq_of_le hle with z | z
    · exact .inl z
    · subst z
      refine .inr ⟨rfl, ?_⟩
      obtain ⟨v, h1, h2⟩ := hs
      rw [List.getElem?_eq_getElem hp] at h1
      have h1' := Option.some.inj h1
      have := s2 (j - (p' + 1)) (by rw [List.getElem?_drop, show p' + 1 + (j - (p' + 1)) = j by omega, h2, h1'])
      omega
where
  find_before {P : Nat → Bool} {p : Nat} (n : Nat) (h : (List.range n).find? P = some p) : ∀ i ∈ List.range n, i < p → P i = false := fun i hi hip => by
    induction n with
    | zero => cases h
    | succ n ih =>
      rw [List.range_succ, List.find?_append] at h
      cases hf : (List.range n).find? P with
      | some p' =>
        rw [hf] at h
        have : p' = p := Option.some.inj h
        subst this
        have hp := List.mem_range.mp (List.mem_of_find?_eq_some hf)
        exact ih hf (List.mem_range.mpr (by omega))
      | none =>
        rw [List.find?_eq_none] at hf
        rw [List.find?_eq_none.mpr hf] at h
        have hpn : p = n := by
          have : [n].find? P = some p := h
          have := List.mem_of_find?_eq_some this
          simpa using this
        have := hf i (List.mem_range.mpr (by omega))
        simpa using this
theorem lawFirst_none {ns : List Int} (h : lawFirst ns = none) : NoP ns := fun i j hij hs => by
  unfold lawFirst at h
  cases hf : (List.range ns.length).find? (hasLater ns) with
  | some p => rw [hf] at h; cases h
  | none =>
    have hi : i < ns.length := by
      obtain ⟨v, h1, _⟩ := hs
      exact (List.getElem?_eq_some_iff.mp h1).1
    exact List.find?_eq_none.mp hf i (List.mem_range.mpr hi) ((later_iff hi).mpr ⟨j, hij, hs⟩)
end DL

namespace DL
open PySem PySem.Spec PyProof.Rows L2

def many (e : Int × List Int) : Bool := decide (1 < e.2.length)
def two (e : Int × List Int) : Int × Int := (e.2.getD 0 0, e.2.getD 1 0)
def rowsOf (ns : List Int) : List (Int × Int) := ((posOf ns).filter many).map two
theorem asc_two : ∀ {l : List Nat} {i j : Nat}, l.Pairwise (· < ·) → i ∈ l → j ∈ l → i < j → ∃ a b r, l = a :: b :: r ∧ (a < i ∨ (a = i ∧ b ≤ j))
  | [], _, _, _, h, _, _ => by cases h
  | [a], i, j, _, h, h', hl => by
    have e1 : i = a := by simpa using h
    have e2 : j = a := by simpa using h'
    omega
  | a :: b :: r, i, j, hp, h, h', hl => by
    refine ⟨a, b, r, rfl, ?_⟩
    obtain ⟨p1, p2⟩ := List.pairwise_cons.mp hp
    obtain ⟨p3, p4⟩ := List.pairwise_cons.mp p2
    rcases List.mem_cons.mp h with e | e
    · refine .inr ⟨e.symm, ?_⟩
      rcases List.mem_cons.mp h' with e' | e'
      · omega
      · rcases List.mem_cons.mp e' with z | z
        · omega
        · have := p3 j z; omega
    · exact .inl (p1 i e)
theorem mem_rows {ns : List Int} {p : Int × Int} (h : p ∈ rowsOf ns) : ∃ (a b : Nat), p = ((a : Int), (b : Int)) ∧ a < b ∧ Same ns a b := by
  obtain ⟨e, he, rfl⟩ := List.mem_map.mp h
  obtain ⟨h1, h2⟩ := List.mem_filter.mp he
  have hl := of_decide_eq_true h2
  have el := (posOf_ok ns).el e h1
  rw [el, List.length_map] at hl
  have hp := occ_lt e.1 ns
  have hm : ∀ i ∈ occ e.1 ns, ns[i]? = some e.1 := fun i hi => mem_occ.mp hi
  unfold two
  rw [el]
  generalize occ e.1 ns = l at hl hp hm
  match l, hl, hp, hm with
  | a :: b :: r, _, hp, hm =>
    refine ⟨a, b, rfl, ?_, e.1, hm a List.mem_cons_self, hm b (List.mem_cons_of_mem _ List.mem_cons_self)⟩
    exact (List.pairwise_cons.mp hp).1 b List.mem_cons_self
theorem rows_of {ns : List Int} {i j : Nat} (hij : i < j) (h : Same ns i j) : ∃ (a b : Nat), ((a : Int), (b : Int)) ∈ rowsOf ns ∧ (a < i ∨ (a = i ∧ b ≤ j)) := by
  obtain ⟨v, h1, h2⟩ := h
  have hv : v ∈ ns := List.mem_of_getElem? h1
  obtain ⟨e, he, ev⟩ := List.mem_map.mp (((posOf_ok ns).key v).mpr hv)
  subst ev
  have el := (posOf_ok ns).el e he
  obtain ⟨a, b, r, hl, hab⟩ := asc_two (occ_lt e.1 ns) (mem_occ.mpr h1) (mem_occ.mpr h2) hij
  refine ⟨a, b, List.mem_map.mpr ⟨e, List.mem_filter.mpr ⟨he, ?_⟩, ?_⟩, hab⟩
  · unfold many
    rw [el, hl]
    exact decide_eq_true (by simp)
  · unfold two
    rw [el, hl]; rfl
theorem rows_first (ns : List Int) : (match rowsOf ns with | [] => none | p :: ps => some (minP p ps)) = (lawFirst ns).map fun q => ((q.1 : Int), (q.2 : Int)) := by
  cases hr : rowsOf ns with
  | nil =>
    cases hf : lawFirst ns with
    | none => rfl
    | some q =>
      obtain ⟨p, q⟩ := q
      have F := lawFirst_some hf
      obtain ⟨a, b, h, _⟩ := rows_of F.lt F.same
      rw [hr] at h; cases h
  | cons p ps =>
    have hm := minP_mem ps p
    have hle := minP_le ps p
    rw [← hr] at hm hle
    obtain ⟨a, b, e, hab, hs⟩ := mem_rows hm
    have F : FP ns a b := ⟨hab, hs, fun i j hij h => by
      obtain ⟨x, y, hx, hxy⟩ := rows_of hij h
      have := pLt_false (hle _ hx)
      rw [e] at this
      dsimp only at this
      omega⟩
    show some (minP p ps) = _
    rw [e]
    cases hf : lawFirst ns with
    | none => exact absurd hs (lawFirst_none hf a b hab)
    | some q =>
      obtain ⟨x, y⟩ := q
      obtain ⟨e1, e2⟩ := F.uniq (lawFirst_some hf)
      rw [e1, e2]; rfl
end DL

namespace DL
open PySem PySem.Spec PyProof.Rows L2

theorem occ_count (n : Int) (ns : List Int) : (occ n ns).length = ns.count n := by
  refine snoc_ind (P := fun ns => (occ n ns).length = ns.count n) rfl (fun l x ih => ?_) ns
  rw [occ_snoc, List.length_append, ih, List.count_append]
  congr 1
  by_cases h : x = n
  · subst h; simp
  · simp [h]
def toldRows (ns : List Int) : List (Int × Int) := (posOf ns).map fun e => (-(e.2.length : Int), e.1)
structure MostTold (ns : List Int) (n : Int) : Prop where
  mem : n ∈ ns
  most : ∀ m ∈ ns, ns.count m < ns.count n ∨ (ns.count m = ns.count n ∧ n ≤ m)
theorem told_row {ns : List Int} {p : Int × Int} (h : p ∈ toldRows ns) : p.2 ∈ ns ∧ p.1 = -(ns.count p.2 : Int) := by
  obtain ⟨e, he, rfl⟩ := List.mem_map.mp h
  have el := (posOf_ok ns).el e he
  refine ⟨((posOf_ok ns).key e.1).mp (List.mem_map.mpr ⟨e, he, rfl⟩), ?_⟩
  show -(e.2.length : Int) = _
  rw [el, List.length_map, occ_count]
theorem row_told {ns : List Int} {m : Int} (h : m ∈ ns) : (-(ns.count m : Int), m) ∈ toldRows ns := by
  obtain ⟨e, he, ev⟩ := List.mem_map.mp (((posOf_ok ns).key m).mpr h)
  subst ev
  refine List.mem_map.mpr ⟨e, he, ?_⟩
  rw [(posOf_ok ns).el e he, List.length_map, occ_count]
theorem told_min {ns : List Int} {p : Int × Int} {ps : List (Int × Int)} (h : toldRows ns = p :: ps) : ∃ n, minP p ps = (-(ns.count n : Int), n) ∧ MostTold ns n := by
  have hm := minP_mem ps p
  have hle := minP_le ps p
  rw [← h] at hm hle
  obtain ⟨h1, h2⟩ := told_row hm
  refine ⟨(minP p ps).2, Prod.ext h2 rfl, h1, fun m hm' => ?_⟩
  have := pLt_false (hle _ (row_told hm'))
  dsimp only at this
  rw [h2] at this
  omega
theorem usort_nil {ns : List Int} (h : usort ns = []) : ns = [] := by
  cases ns with
  | nil => rfl
  | cons n ns =>
    have : n ∈ usort (n :: ns) := mem_usort.mpr List.mem_cons_self
    rw [h] at this; cases this
/-- as the law tells it -/
theorem told_law {ns : List Int} {n u : Int} {us : List Int} (M : MostTold ns n) (hu : usort ns = u :: us) :
    maxL (ns.count u : Nat) (us.map fun m => ((ns.count m : Nat) : Int)) = (ns.count n : Nat) ∧ ∃ r, (usort ns).filter (fun m => ((ns.count m : Nat) : Int) == (ns.count n : Nat)) = n :: r := by
  obtain ⟨m1, m2⟩ := maxL_spec (us.map fun m => ((ns.count m : Nat) : Int)) (ns.count u : Nat)
  have e0 : ((ns.count u : Nat) : Int) :: (us.map fun m => ((ns.count m : Nat) : Int)) = (usort ns).map fun m => ((ns.count m : Nat) : Int) := by rw [hu]; rfl
  rw [e0] at m1 m2
  obtain ⟨m, hm, hmx⟩ := List.mem_map.mp m1
  have hn : n ∈ usort ns := mem_usort.mpr M.mem
  have a := m2 _ (List.mem_map.mpr ⟨n, hn, rfl⟩)
  have b := M.most m (mem_usort.mp hm)
  refine ⟨by omega, ?_⟩
  have hf : n ∈ (usort ns).filter (fun m => ((ns.count m : Nat) : Int) == (ns.count n : Nat)) := List.mem_filter.mpr ⟨hn, beq_self_eq_true _⟩
  have hs : ((usort ns).filter (fun m => ((ns.count m : Nat) : Int) == (ns.count n : Nat))).Pairwise (· < ·) := (usort_lt ns).filter _
  have hall : ∀ m ∈ (usort ns).filter (fun m => ((ns.count m : Nat) : Int) == (ns.count n : Nat)), n ≤ m := fun m hm => by
    obtain ⟨x, y⟩ := List.mem_filter.mp hm
    have y' := eq_of_beq y
    have := M.most m (mem_usort.mp x)
    omega
  generalize (usort ns).filter (fun m => ((ns.count m : Nat) : Int) == (ns.count n : Nat)) = l at hf hs hall
  match l, hf, hs, hall with
  | x :: r, hf, hs, hall =>
    refine ⟨r, ?_⟩
    have h1 := hall x List.mem_cons_self
    rcases List.mem_cons.mp hf with e | e
    · rw [e]
    · have := (List.pairwise_cons.mp hs).1 n e
      omega
theorem posOf_usort (ns : List Int) : (posOf ns).length = (usort ns).length := by
  have h1 := (posOf_ok ns).nd
  have h2 : (usort ns).Nodup := (usort_lt ns).imp fun h => by omega
  have : ((posOf ns).map (·.1)).Perm (usort ns) := (List.perm_ext_iff_of_nodup h1 h2).mpr fun n => ((posOf_ok ns).key n).trans mem_usort.symm
  have := this.length_eq
  rw [List.length_map] at this
  exact this
theorem atK_find {f : Int × List Int → D} (n : Int) : ∀ acc : List (Int × List Int), atK (acc.map fun e => (.inl e.1 : Key)) (acc.map f) (.inl n) = (acc.find? fun e => decide (e.1 = n)).map f
  | [] => rfl
  | e :: acc => by
    show (if (Sum.inl e.1 : Key) = Sum.inl n then some (f e) else atK (acc.map fun e => (.inl e.1 : Key)) (acc.map f) (.inl n)) = _
    rw [List.find?_cons]
    by_cases h : e.1 = n
    · rw [if_pos (by rw [h]), decide_eq_true h]; rfl
    · rw [if_neg (fun z => h (Sum.inl.inj z)), decide_eq_false h]; exact atK_find n acc
theorem pos_at (ns : List Int) (n : Int) : ((posOf ns).find? fun e => decide (e.1 = n)).map (·.2) = if n ∈ ns then some ((occ n ns).map fun (i : Nat) => (i : Int)) else none := by
  cases hf : (posOf ns).find? fun e => decide (e.1 = n) with
  | some e =>
    have h1 := List.mem_of_find?_eq_some hf
    have h2a : decide (e.1 = n) = true := List.find?_some (p := fun e : Int × List Int => decide (e.1 = n)) hf
    have h2 := of_decide_eq_true h2a
    subst h2
    rw [if_pos (((posOf_ok ns).key e.1).mp (List.mem_map.mpr ⟨e, h1, rfl⟩))]
    exact congrArg some ((posOf_ok ns).el e h1)
  | none =>
    rw [if_neg]; rfl
    intro h
    obtain ⟨e, he, ev⟩ := List.mem_map.mp (((posOf_ok ns).key n).mpr h)
    exact List.find?_eq_none.mp hf e he (decide_eq_true ev)
end DL

namespace DL
open PySem PySem.Spec PyProof.Rows L2

/-! ### rows of differences -/
theorem digs_inj : ∀ (ms : List Nat) (p q : Nat), (∀ m ∈ ms, 0 < m) → p < nprod ms → q < nprod ms → digs ms p = digs ms q → p = q
  | [], p, q, _, hp, hq, _ => by
    simp only [nprod] at hp hq
    omega
  | m :: ms, p, q, h, hp, hq, e => by
    have hm := h m List.mem_cons_self
    rw [digs, digs] at e
    have e1 : p % m = q % m := (List.cons.inj e).1
    have e2 := (List.cons.inj e).2
    rw [nprod] at hp hq
    have := digs_inj ms (p / m) (q / m) (fun x hx => h x (List.mem_cons_of_mem _ hx)) (Nat.div_lt_of_lt_mul hp) (Nat.div_lt_of_lt_mul hq) e2
    rw [← Nat.div_add_mod p m, ← Nat.div_add_mod q m, this, e1]
def rowD (ps : List (Nat × Int)) (p q : Nat) : List Int := ((digs (ps.map (·.1)) p).zip (digs (ps.map (·.1)) q)).map fun z => (z.2 : Int) - z.1
theorem rowD_len (ps : List (Nat × Int)) (p q : Nat) : (rowD ps p q).length = ps.length := by
  unfold rowD
  rw [List.length_map, List.length_zip, digs_len, digs_len, Nat.min_self, List.length_map]
def nzB (row : List Int) : Bool := row.any fun x => !(x == 0)
def inB (ps : List (Nat × Int)) (row : List Int) : Bool := (row.zip ps).all fun q => decide (1 - (q.2.1 : Int) ≤ q.1) && decide (q.1 ≤ (q.2.1 : Int) - 1)
def smI (ps : List (Nat × Int)) (row : List Int) : Int := ((row.zip ps).map fun q => q.1 * q.2.2).sum
def rowOk (ps : List (Nat × Int)) (row : List Int) : Bool := nzB row && (inB ps row && smI ps row == 0)
theorem rowD_cons (m : Nat) (t : Int) (ps : List (Nat × Int)) (p q : Nat) : rowD ((m, t) :: ps) p q = (((q % m : Nat) : Int) - ((p % m : Nat) : Int)) :: rowD ps (p / m) (q / m) := rfl
theorem val_cons (m : Nat) (t : Int) (ps : List (Nat × Int)) (p : Nat) : val ((m, t) :: ps) p = ((p % m : Nat) : Int) * t + val ps (p / m) := by
  unfold val
  rw [List.map_cons, digs, List.zip_cons_cons, List.map_cons, List.sum_cons]
theorem rowD_sum : ∀ (ps : List (Nat × Int)) (p q : Nat), smI ps (rowD ps p q) = val ps q - val ps p
  | [], _, _ => rfl
  | (m, t) :: ps, p, q => by
    have ih := rowD_sum ps (p / m) (q / m)
    unfold smI at ih ⊢
    rw [rowD_cons, val_cons, val_cons, List.zip_cons_cons, List.map_cons, List.sum_cons, ih, Int.sub_mul]
    dsimp only
    omega
theorem rowD_in : ∀ (ps : List (Nat × Int)) (p q : Nat), (∀ x ∈ ps, 0 < x.1) → inB ps (rowD ps p q) = true
  | [], _, _, _ => rfl
  | (m, t) :: ps, p, q, h => by
    have ih := rowD_in ps (p / m) (q / m) fun x hx => h x (List.mem_cons_of_mem _ hx)
    unfold inB at ih ⊢
    have hm : 0 < m := h (m, t) List.mem_cons_self
    have a := Nat.mod_lt p hm
    have b := Nat.mod_lt q hm
    rw [rowD_cons, List.zip_cons_cons, List.all_cons, ih]
    dsimp only
    rw [decide_eq_true (by omega), decide_eq_true (by omega)]; rfl
theorem rowD_nz : ∀ (ps : List (Nat × Int)) (p q : Nat), nzB (rowD ps p q) = false → digs (ps.map (·.1)) p = digs (ps.map (·.1)) q
  | [], _, _, _ => rfl
  | (m, t) :: ps, p, q, h => by
    unfold nzB at h
    rw [rowD_cons, List.any_cons, Bool.or_eq_false_iff] at h
    have ih := rowD_nz ps (p / m) (q / m) h.2
    have h1 : ((q % m : Nat) : Int) - ((p % m : Nat) : Int) = 0 := by
      have := h.1
      simpa using this
    rw [List.map_cons, digs, digs, ih]
    congr 1
    show p % m = q % m
    omega
theorem rowD_ok {ps : List (Nat × Int)} (h : ∀ x ∈ ps, 0 < x.1) {p q : Nat} (hp : p < nprod (ps.map (·.1))) (hq : q < nprod (ps.map (·.1))) (hne : p ≠ q) (hv : val ps p = val ps q) : rowOk ps (rowD ps p q) = true := by
  unfold rowOk
  rw [rowD_in ps p q h, rowD_sum, hv, Int.sub_self]
  cases hz : nzB (rowD ps p q) with
  | true => rfl
  | false =>
    exact absurd (digs_inj _ p q (fun m hm => by
      obtain ⟨x, hx, rfl⟩ := List.mem_map.mp hm
      exact h x hx) hp hq (rowD_nz ps p q hz)) hne
theorem rowD_neg (ps : List (Nat × Int)) (p q : Nat) : (rowD ps p q).map (fun x => -x) = rowD ps q p := by
  unfold rowD
  rw [List.map_map]
  generalize digs (ps.map (·.1)) p = a
  generalize digs (ps.map (·.1)) q = b
  induction a generalizing b with
  | nil => cases b <;> rfl
  | cons x a ih =>
    cases b with
    | nil => rfl
    | cons y b =>
      rw [List.zip_cons_cons, List.zip_cons_cons, List.map_cons, List.map_cons, ih b]
      congr 1
      show -((y : Int) - (x : Int)) = _
      omega
theorem lst_at {s : Int} {ps : List (Nat × Int)} {i : Nat} (hi : i < nprod (ps.map (·.1))) : (lst s ps)[i]? = some (s + val ps i) := by
  unfold lst
  rw [List.getElem?_map, List.getElem?_range hi]; rfl
theorem same_val {s : Int} {ps : List (Nat × Int)} {i j : Nat} (h : Same (lst s ps) i j) : i < nprod (ps.map (·.1)) ∧ j < nprod (ps.map (·.1)) ∧ val ps i = val ps j := by
  obtain ⟨v, h1, h2⟩ := h
  have a := (List.getElem?_eq_some_iff.mp h1).1
  have b := (List.getElem?_eq_some_iff.mp h2).1
  have l : (lst s ps).length = nprod (ps.map (·.1)) := by unfold lst; rw [List.length_map, List.length_range]
  rw [l] at a b
  rw [lst_at a] at h1
  rw [lst_at b] at h2
  have := Option.some.inj (h1.trans h2.symm)
  exact ⟨a, b, by omega⟩
end DL

namespace K47
open PySem PySem.Spec PyProof.Rows L2 DL
def topS (i : Nat) : Stmt := PySem.Challenge.pw_walkstrides_k47_whole_walks_that_meet_th.main.body.getD i (.Pass ⟨0, 0, 0, 0⟩)
structure Tx (K : PySem.W.Frag) (mg : Str → Option Value) (fa : Nat → Addr) (fd : Nat → FuncData) (ec : Nat → Addr) : Prop where
  F_is_integer : Fun K "is_integer" "is_integer" (topS 5) (fa 0) (fd 0)
  g_is_integer : mg "is_integer" = some (.ref (fa 0))
  b_is_integer : Binds K (fd 0) ["value"] []
  F_is_number : Fun K "is_number" "is_number" (topS 6) (fa 1) (fd 1)
  g_is_number : mg "is_number" = some (.ref (fa 1))
  b_is_number : Binds K (fd 1) ["value", "low", "high"] []
  F_is_tuple_of : Fun K "is_tuple_of" "is_tuple_of" (topS 7) (fa 2) (fd 2)
  g_is_tuple_of : mg "is_tuple_of" = some (.ref (fa 2))
  b_is_tuple_of : Binds K (fd 2) ["value", "low", "high"] []
  F_number_in : Fun K "number_in" "number_in" (topS 11) (fa 3) (fd 3)
  g_number_in : mg "number_in" = some (.ref (fa 3))
  b_number_in : Binds K (fd 3) ["sizes"] []
  F_sizes_in : Fun K "sizes_in" "sizes_in" (topS 12) (fa 4) (fd 4)
  g_sizes_in : mg "sizes_in" = some (.ref (fa 4))
  b_sizes_in : Binds K (fd 4) ["pairs"] []
  F_fits_shape : Fun K "fits_shape" "fits_shape" (topS 13) (fa 5) (fd 5)
  g_fits_shape : mg "fits_shape" = some (.ref (fa 5))
  b_fits_shape : Binds K (fd 5) ["value"] []
  F_fits_pairs : Fun K "fits_pairs" "fits_pairs" (topS 14) (fa 6) (fd 6)
  g_fits_pairs : mg "fits_pairs" = some (.ref (fa 6))
  b_fits_pairs : Binds K (fd 6) ["value"] []
  F_fits_walk : Fun K "fits_walk" "fits_walk" (topS 15) (fa 7) (fd 7)
  g_fits_walk : mg "fits_walk" = some (.ref (fa 7))
  b_fits_walk : Binds K (fd 7) ["value"] []
  F_need_walk : Fun K "need_walk" "need_walk" (topS 16) (fa 8) (fd 8)
  g_need_walk : mg "need_walk" = some (.ref (fa 8))
  b_need_walk : Binds K (fd 8) ["value"] []
  F_digits_in : Fun K "digits_in" "digits_in" (topS 17) (fa 9) (fd 9)
  g_digits_in : mg "digits_in" = some (.ref (fa 9))
  b_digits_in : Binds K (fd 9) ["sizes", "place"] []
  F_list_in : Fun K "list_in" "list_in" (topS 19) (fa 10) (fd 10)
  g_list_in : mg "list_in" = some (.ref (fa 10))
  b_list_in : Binds K (fd 10) ["walk"] []
  F_need_integer : Fun K "need_integer" "need_integer" (topS 21) (fa 11) (fd 11)
  g_need_integer : mg "need_integer" = some (.ref (fa 11))
  b_need_integer : Binds K (fd 11) ["value"] []
  F_places_by_number : Fun K "places_by_number" "places_by_number" (topS 22) (fa 12) (fd 12)
  g_places_by_number : mg "places_by_number" = some (.ref (fa 12))
  b_places_by_number : Binds K (fd 12) ["numbers"] []
  F_first_in : Fun K "first_in" "first_in" (topS 23) (fa 13) (fd 13)
  g_first_in : mg "first_in" = some (.ref (fa 13))
  b_first_in : Binds K (fd 13) ["numbers"] []
  F_meets_itself : Fun K "meets_itself" "meets_itself" (topS 24) (fa 14) (fd 14)
  g_meets_itself : mg "meets_itself" = some (.ref (fa 14))
  b_meets_itself : Binds K (fd 14) ["walk"] []
  F_first_places : Fun K "first_places" "first_places" (topS 25) (fa 15) (fd 15)
  g_first_places : mg "first_places" = some (.ref (fa 15))
  b_first_places : Binds K (fd 15) ["walk"] []
  F_is_meeting : Fun K "is_meeting" "is_meeting" (topS 26) (fa 16) (fd 16)
  g_is_meeting : mg "is_meeting" = some (.ref (fa 16))
  b_is_meeting : Binds K (fd 16) ["walk", "value"] []
  F_difference_row : Fun K "difference_row" "difference_row" (topS 27) (fa 17) (fd 17)
  g_difference_row : mg "difference_row" = some (.ref (fa 17))
  b_difference_row : Binds K (fd 17) ["walk"] []
  F_is_difference_row : Fun K "is_difference_row" "is_difference_row" (topS 28) (fa 18) (fd 18)
  g_is_difference_row : mg "is_difference_row" = some (.ref (fa 18))
  b_is_difference_row : Binds K (fd 18) ["walk", "value"] []
  F_count_unlike : Fun K "count_unlike" "count_unlike" (topS 29) (fa 19) (fd 19)
  g_count_unlike : mg "count_unlike" = some (.ref (fa 19))
  b_count_unlike : Binds K (fd 19) ["walk"] []
  F_places_of : Fun K "places_of" "places_of" (topS 30) (fa 20) (fd 20)
  g_places_of : mg "places_of" = some (.ref (fa 20))
  b_places_of : Binds K (fd 20) ["walk", "number"] []
  F_most_told : Fun K "most_told" "most_told" (topS 31) (fa 21) (fd 21)
  g_most_told : mg "most_told" = some (.ref (fa 21))
  b_most_told : Binds K (fd 21) ["walk"] []
  F__law_cup : Fun K "_law_cup" "_law_cup" (topS 33) (fa 22) (fd 22)
  g__law_cup : mg "_law_cup" = some (.ref (fa 22))
  b__law_cup : Binds K (fd 22) ["script"] []
  F__law_roll : Fun K "_law_roll" "_law_roll" (topS 34) (fa 23) (fd 23)
  g__law_roll : mg "_law_roll" = some (.ref (fa 23))
  b__law_roll : Binds K (fd 23) ["cup", "many"] []
  F__law_some : Fun K "_law_some" "_law_some" (topS 35) (fa 24) (fd 24)
  g__law_some : mg "_law_some" = some (.ref (fa 24))
  b__law_some : Binds K (fd 24) ["cup", "things"] []
  F__law_sort : Fun K "_law_sort" "_law_sort" (topS 36) (fa 25) (fd 25)
  g__law_sort : mg "_law_sort" = some (.ref (fa 25))
  b__law_sort : Binds K (fd 25) ["value"] []
  F__law_like : Fun K "_law_like" "_law_like" (topS 37) (fa 26) (fd 26)
  g__law_like : mg "_law_like" = some (.ref (fa 26))
  b__law_like : Binds K (fd 26) ["one", "other"] []
  F__law_number : Fun K "_law_number" "_law_number" (topS 38) (fa 27) (fd 27)
  g__law_number : mg "_law_number" = some (.ref (fa 27))
  b__law_number : Binds K (fd 27) ["sizes"] []
  F__law_sizes : Fun K "_law_sizes" "_law_sizes" (topS 39) (fa 28) (fd 28)
  g__law_sizes : mg "_law_sizes" = some (.ref (fa 28))
  b__law_sizes : Binds K (fd 28) ["cup", "most"] []
  F__law_step : Fun K "_law_step" "_law_step" (topS 40) (fa 29) (fd 29)
  g__law_step : mg "_law_step" = some (.ref (fa 29))
  b__law_step : Binds K (fd 29) ["cup"] []
  F__law_pairs : Fun K "_law_pairs" "_law_pairs" (topS 41) (fa 30) (fd 30)
  g__law_pairs : mg "_law_pairs" = some (.ref (fa 30))
  b__law_pairs : Binds K (fd 30) ["cup", "sizes"] []
  F__law_walk : Fun K "_law_walk" "_law_walk" (topS 42) (fa 31) (fd 31)
  g__law_walk : mg "_law_walk" = some (.ref (fa 31))
  b__law_walk : Binds K (fd 31) ["cup", "most"] []
  F__law_digits : Fun K "_law_digits" "_law_digits" (topS 43) (fa 32) (fd 32)
  g__law_digits : mg "_law_digits" = some (.ref (fa 32))
  b__law_digits : Binds K (fd 32) ["sizes", "place"] []
  F__law_list : Fun K "_law_list" "_law_list" (topS 44) (fa 33) (fd 33)
  g__law_list : mg "_law_list" = some (.ref (fa 33))
  b__law_list : Binds K (fd 33) ["walk"] []
  F__law_first : Fun K "_law_first" "_law_first" (topS 45) (fa 34) (fd 34)
  g__law_first : mg "_law_first" = some (.ref (fa 34))
  b__law_first : Binds K (fd 34) ["numbers"] []
  F__law_is_row : Fun K "_law_is_row" "_law_is_row" (topS 46) (fa 35) (fd 35)
  g__law_is_row : mg "_law_is_row" = some (.ref (fa 35))
  b__law_is_row : Binds K (fd 35) ["walk", "row"] []
  F__law_rows_right : Fun K "_law_rows_right" "_law_rows_right" (topS 47) (fa 36) (fd 36)
  g__law_rows_right : mg "_law_rows_right" = some (.ref (fa 36))
  b__law_rows_right : Binds K (fd 36) ["cup", "walk", "first"] []
  F__law_right : Fun K "_law_right" "_law_right" (topS 48) (fa 37) (fd 37)
  g__law_right : mg "_law_right" = some (.ref (fa 37))
  b__law_right : Binds K (fd 37) ["cup", "walk"] []
  F__law_written_right : Fun K "_law_written_right" "_law_written_right" (topS 49) (fa 38) (fd 38)
  g__law_written_right : mg "_law_written_right" = some (.ref (fa 38))
  b__law_written_right : Binds K (fd 38) [] []
  F_law : Fun K "law" "law" (topS 50) (fa 39) (fd 39)
  g_law : mg "law" = some (.ref (fa 39))
  b_law : Binds K (fd 39) ["script"] []
  n_abs : mg "abs" = none
  n_all : mg "all" = none
  n_any : mg "any" = none
  n_bool : mg "bool" = none
  n_enumerate : mg "enumerate" = none
  n_int : mg "int" = none
  n_isinstance : mg "isinstance" = none
  n_len : mg "len" = none
  n_list : mg "list" = none
  n_max : mg "max" = none
  n_min : mg "min" = none
  n_range : mg "range" = none
  n_set : mg "set" = none
  n_sorted : mg "sorted" = none
  n_str : mg "str" = none
  n_sum : mg "sum" = none
  n_tuple : mg "tuple" = none
  n_zip : mg "zip" = none
  c_MOST_PAIRS : ∃ t, mg "MOST_PAIRS" = some (.int 16 t)
  c_MOST_PLACES : ∃ t, mg "MOST_PLACES" = some (.int 5000 t)
  e_InvalidNumber : mg "InvalidNumber" = some (.ref (ec 1))
  x_InvalidNumber : PySem.W.excIn K (ec 1) [.type "ValueError", .type "Exception", .type "BaseException", .type "object"] "ValueError.__new__" = true
  k_InvalidNumber : PySem.W.keepIn K (.ref (ec 1)) = true
  s_InvalidNumber : PySem.W.subIn K (.ref (ec 1)) (.type "BaseException") = some true
  t_InvalidNumber : PySem.W.typeIn K (.ref (ec 1)) = some (.type "type")
  e_InvalidWalk : mg "InvalidWalk" = some (.ref (ec 2))
  x_InvalidWalk : PySem.W.excIn K (ec 2) [.type "ValueError", .type "Exception", .type "BaseException", .type "object"] "ValueError.__new__" = true
  k_InvalidWalk : PySem.W.keepIn K (.ref (ec 2)) = true
  s_InvalidWalk : PySem.W.subIn K (.ref (ec 2)) (.type "BaseException") = some true
  t_InvalidWalk : PySem.W.typeIn K (.ref (ec 2)) = some (.type "type")
end K47

namespace K47
open PySem PySem.Spec PyProof.Rows L2 DL
section
variable {P : Program} {w : World} {K : PySem.W.Frag} {mg : Str → Option Value} {base : Heap} {fa : Nat → Addr} {fd : Nat → FuncData} {ec : Nat → Addr} {TT : List (Addr × Str)}
/-! is_integer -/
def b_is_integer : Sx := (sSeq (sRet (eAnd (e1 (dIsi "int") (eV 0)) (eNot (e1 (dIsi "bool") (eV 0))))) sNx)
def m_is_integer : List D → C → R D := dDef 1 b_is_integer
theorem sc_is_integer : FnScope ["value"] ["value"] (defScope (topS 5)) := ⟨rfl, rfl, rfl, by decide +kernel, rfl, by decide +kernel, by decide +kernel⟩
theorem ok_is_integer (T : Tx K mg fa fd ec) : FnOk P w K mg base (L2.CX P w) 1 (fa 0) (fd 0) ["value"] (spD ⟨K, fa, ec, TT⟩ 1 m_is_integer) := by
  have sc := sc_is_integer
  refine ok_def T.F_is_integer sc rfl [] fun cdv A outer s H E hr => ?_
  exact (dss_cons (ds_ret (de_and (de_isi T.n_isinstance T.n_int boot_int (sh (de_v (pv 0)))) (de_and1 (de_not (de_isi T.n_isinstance T.n_bool boot_bool (sh (de_v (pv 0)))))))) dss_nil)
/-! is_number -/
def b_is_number : Sx := (sSeq (sRet (eAnd (eCall m_is_integer (aC (eV 0) aN)) (eCh dLe dLe (eV 1) (eV 0) (eV 2)))) sNx)
def m_is_number : List D → C → R D := dDef 3 b_is_number
theorem sc_is_number : FnScope ["value", "low", "high"] ["value", "low", "high"] (defScope (topS 6)) := ⟨rfl, rfl, rfl, by decide +kernel, rfl, by decide +kernel, by decide +kernel⟩
theorem ok_is_number (T : Tx K mg fa fd ec) : FnOk P w K mg base (L2.CX P w) 2 (fa 1) (fd 1) ["value", "low", "high"] (spD ⟨K, fa, ec, TT⟩ 3 m_is_number) := by
  have sc := sc_is_number
  refine ok_def T.F_is_number sc rfl [] fun cdv A outer s H E hr => ?_
  exact (dss_cons (ds_ret (de_and (de_call (ok_is_integer T) (hr.mono (by decide)) T.g_is_integer T.F_is_integer.kp T.b_is_integer (takes_of rfl rfl rfl rfl) (da_cons (de_v (pv 0)) da_nil)) (de_and1 (de_chain op_le op_le o_le o_le (sh (de_v (pv 1))) (sh (de_v (pv 0))) (sh (de_v (pv 2))))))) dss_nil)
/-! is_tuple_of -/
def b_is_tuple_of : Sx := (sSeq (sRet (eAnd (e1 (dIsi "tuple") (eV 0)) (eCh dLe dLe (eV 1) (e1 dLenA (eV 0)) (eV 2)))) sNx)
def m_is_tuple_of : List D → C → R D := dDef 3 b_is_tuple_of
theorem sc_is_tuple_of : FnScope ["value", "low", "high"] ["value", "low", "high"] (defScope (topS 7)) := ⟨rfl, rfl, rfl, by decide +kernel, rfl, by decide +kernel, by decide +kernel⟩
theorem ok_is_tuple_of (T : Tx K mg fa fd ec) : FnOk P w K mg base (L2.CX P w) 1 (fa 2) (fd 2) ["value", "low", "high"] (spD ⟨K, fa, ec, TT⟩ 3 m_is_tuple_of) := by
  have sc := sc_is_tuple_of
  refine ok_def T.F_is_tuple_of sc rfl [] fun cdv A outer s H E hr => ?_
  exact (dss_cons (ds_ret (de_and (de_isi T.n_isinstance T.n_tuple boot_tuple (sh (de_v (pv 0)))) (de_and1 (de_chain op_le op_le o_le o_le (sh (de_v (pv 1))) (sh (de_b1 call_lenA o_lenA T.n_len PySem.boot_len (sh (de_v (pv 0))))) (sh (de_v (pv 2))))))) dss_nil)
/-! number_in -/
def b_number_in : Sx := (sSeq (sSet 1 (eC (.int 1))) (sSeq (sFor (iSeq (eV 0)) (bN 2) (sForget [2] (sSeq (sSet 1 (e2 (dInt2 iMul) (eV 1) (eV 2))) sNx))) (sSeq (sRet (eV 1)) sNx)))
def m_number_in : List D → C → R D := dDef 3 b_number_in
theorem sc_number_in : FnScope ["sizes", "found", "size"] ["sizes"] (defScope (topS 11)) := ⟨rfl, rfl, rfl, by decide +kernel, rfl, by decide +kernel, by decide +kernel⟩
theorem ok_number_in (T : Tx K mg fa fd ec) : FnOk P w K mg base (L2.CX P w) 1 (fa 3) (fd 3) ["sizes"] (spD ⟨K, fa, ec, TT⟩ 1 m_number_in) := by
  have sc := sc_number_in
  refine ok_def T.F_number_in sc rfl [] fun cdv A outer s H E hr => ?_
  exact (dss_cons (ds_set (i := 1) (ps_set (i := 1) sc.nd rfl (by first | exact Or.inl rfl | exact Or.inr rfl) de_int) (fun _ _ _ h => h)) (dss_cons (ds_for (vs := [2]) (di_seq (de_v (pv 0))) (dg_n (pg_name (i := 2) sc.nd rfl (by first | exact Or.inl rfl | exact Or.inr rfl))) (dss_forget [2] (dss_cons (ds_set (i := 1) (ps_set (i := 1) sc.nd rfl (by first | exact Or.inl rfl | exact Or.inr rfl) (de_op op_mulA o_mul (sh (de_v (pv 1))) (sh (de_v (pv 2))))) (fun _ _ _ h => h)) dss_nil)) (passes_of rfl)) (dss_cons (ds_ret (de_v (pv 1))) dss_nil)))
/-! sizes_in -/
def b_sizes_in : Sx := (sSeq (sRet (e1 dTuple (eLc (iSeq (eV 0)) [1, 2] (bT (bsC (bN 1) (bsC (bN 2) bsN))) DL.tYes (eV 1)))) sNx)
def m_sizes_in : List D → C → R D := dDef 3 b_sizes_in
theorem sc_sizes_in : FnScope ["pairs", "size", "step"] ["pairs"] (defScope (topS 12)) := ⟨rfl, rfl, rfl, by decide +kernel, rfl, by decide +kernel, by decide +kernel⟩
theorem ok_sizes_in (T : Tx K mg fa fd ec) : FnOk P w K mg base (L2.CX P w) 1 (fa 4) (fd 4) ["pairs"] (spD ⟨K, fa, ec, TT⟩ 1 m_sizes_in) := by
  have sc := sc_sizes_in
  refine ok_def T.F_sizes_in sc rfl [] fun cdv A outer s H E hr => ?_
  exact (dss_cons (ds_ret (de_t1 call_tupN o_tuple T.n_tuple boot_tuple (sh (fr (df_lc (own := [("size", 1), ("step", 2)]) (di_seqS (sh (de_v (pv 0)))) (blkOk_by (by kernel_rfl)) (fun _ _ _ _ _ => (dg_t (fun _ _ _ h => bsC_len (fun _ _ _ h => bsC_len (fun _ _ _ h => bsN_len h) h) h) (pg_seq rfl (dgs_c (pgs_cons (dg_n (pg_name (i := 1) sc.nd rfl (by first | exact Or.inl rfl | exact Or.inr rfl))) (dgs_c (pgs_cons (dg_n (pg_name (i := 2) sc.nd rfl (by first | exact Or.inl rfl | exact Or.inr rfl))) dgs_n))))))) (fun _ _ _ _ _ => dts_nil) (fun _ _ _ _ _ => (de_v (pv 1))) sc.nd))))) dss_nil)
/-! fits_shape -/
def b_fits_shape : Sx := (sSeq (sIf (DL.tOr (DL.tNot (eT (eCall m_is_tuple_of (aC (eV 0) (aC (eC (.int 0)) (aC (eC (.int 16)) aN)))))) (DL.tNot (eT (e1 dAll (eLc (iSeq (eV 0)) [1] (bN 1) DL.tYes (eCall m_is_number (aC (eV 1) (aC (eC (.int 1)) (aC (eC (.int 5000)) aN))))))))) (sSeq (sRet (eC (.bl false))) sNx) sNx) (sSeq (sRet (e2 dLe (eCall m_number_in (aC (eV 0) aN)) (eC (.int 5000)))) sNx))
def m_fits_shape : List D → C → R D := dDef 2 b_fits_shape
theorem sc_fits_shape : FnScope ["value", "size"] ["value"] (defScope (topS 13)) := ⟨rfl, rfl, rfl, by decide +kernel, rfl, by decide +kernel, by decide +kernel⟩
theorem ok_fits_shape (T : Tx K mg fa fd ec) : FnOk P w K mg base (L2.CX P w) 3 (fa 5) (fd 5) ["value"] (spD ⟨K, fa, ec, TT⟩ 1 m_fits_shape) := by
  have sc := sc_fits_shape
  refine ok_def T.F_fits_shape sc rfl [] fun cdv A outer s H E hr => ?_
  exact (dss_cons (ds_if (dw_or (dt_not (dt_val (de_call (ok_is_tuple_of T) (hr.mono (by decide)) T.g_is_tuple_of T.F_is_tuple_of.kp T.b_is_tuple_of (takes_of rfl rfl rfl rfl) (da_cons (de_v (pv 0)) (da_cons de_int (da_cons (de_gintE T.c_MOST_PAIRS) da_nil)))))) (dw_or1 (dt_not (dt_val (de_b1 (cr_all rfl) o_all T.n_all (by decide +kernel) (sh (fr (df_lc (own := [("size", 1)]) (di_seqS (sh (de_v (pv 0)))) (blkOk_by (by kernel_rfl)) (fun _ _ _ _ _ => (dg_n (pg_name (i := 1) sc.nd rfl (by first | exact Or.inl rfl | exact Or.inr rfl)))) (fun _ _ _ _ _ => dts_nil) (fun _ _ _ _ _ => (de_call (ok_is_number T) (hr.mono (by decide)) T.g_is_number T.F_is_number.kp T.b_is_number takes0 (da_cons (de_v (pv 1)) (da_cons de_int (da_cons (de_gintE T.c_MOST_PLACES) da_nil))))) sc.nd)))))))).pt (dss_cons (ds_ret de_bl) dss_nil) dss_nil) (dss_cons (ds_ret (de_cmp op_le o_le (sh (de_call (ok_number_in T) (hr.mono (by decide)) T.g_number_in T.F_number_in.kp T.b_number_in (takes_of rfl rfl rfl rfl) (da_cons (de_v (pv 0)) da_nil))) (sh (de_gintE T.c_MOST_PLACES)) (nomark _))) dss_nil))
/-! fits_pairs -/
def b_fits_pairs : Sx := (sSeq (sIf (DL.tOr (DL.tNot (eT (eCall m_is_tuple_of (aC (eV 0) (aC (eC (.int 0)) (aC (eC (.int 16)) aN)))))) (DL.tNot (eT (e1 dAll (eLc (iSeq (eV 0)) [1] (bN 1) DL.tYes (eCall m_is_tuple_of (aC (eV 1) (aC (eC (.int 2)) (aC (eC (.int 2)) aN))))))))) (sSeq (sRet (eC (.bl false))) sNx) sNx) (sSeq (sRet (eAnd (e1 dAll (eLc (iSeq (eV 0)) [2, 3] (bT (bsC (bN 2) (bsC (bN 3) bsN))) DL.tYes (eCall m_is_integer (aC (eV 3) aN)))) (eCall m_fits_shape (aC (eCall m_sizes_in (aC (eV 0) aN)) aN)))) sNx))
def m_fits_pairs : List D → C → R D := dDef 4 b_fits_pairs
theorem sc_fits_pairs : FnScope ["value", "pair", "size", "step"] ["value"] (defScope (topS 14)) := ⟨rfl, rfl, rfl, by decide +kernel, rfl, by decide +kernel, by decide +kernel⟩
theorem ok_fits_pairs (T : Tx K mg fa fd ec) : FnOk P w K mg base (L2.CX P w) 4 (fa 6) (fd 6) ["value"] (spD ⟨K, fa, ec, TT⟩ 1 m_fits_pairs) := by
  have sc := sc_fits_pairs
  refine ok_def T.F_fits_pairs sc rfl [] fun cdv A outer s H E hr => ?_
  exact (dss_cons (ds_if (dw_or (dt_not (dt_val (de_call (ok_is_tuple_of T) (hr.mono (by decide)) T.g_is_tuple_of T.F_is_tuple_of.kp T.b_is_tuple_of (takes_of rfl rfl rfl rfl) (da_cons (de_v (pv 0)) (da_cons de_int (da_cons (de_gintE T.c_MOST_PAIRS) da_nil)))))) (dw_or1 (dt_not (dt_val (de_b1 (cr_all rfl) o_all T.n_all (by decide +kernel) (sh (fr (df_lc (own := [("pair", 1)]) (di_seqS (sh (de_v (pv 0)))) (blkOk_by (by kernel_rfl)) (fun _ _ _ _ _ => (dg_n (pg_name (i := 1) sc.nd rfl (by first | exact Or.inl rfl | exact Or.inr rfl)))) (fun _ _ _ _ _ => dts_nil) (fun _ _ _ _ _ => (de_call (ok_is_tuple_of T) (hr.mono (by decide)) T.g_is_tuple_of T.F_is_tuple_of.kp T.b_is_tuple_of takes0 (da_cons (de_v (pv 1)) (da_cons de_int (da_cons de_int da_nil))))) sc.nd)))))))).pt (dss_cons (ds_ret de_bl) dss_nil) dss_nil) (dss_cons (ds_ret (de_and (de_b1 (cr_all rfl) o_all T.n_all (by decide +kernel) (sh (fr (df_lc (own := [("size", 2), ("step", 3)]) (di_seqS (sh (de_v (pv 0)))) (blkOk_by (by kernel_rfl)) (fun _ _ _ _ _ => (dg_t (fun _ _ _ h => bsC_len (fun _ _ _ h => bsC_len (fun _ _ _ h => bsN_len h) h) h) (pg_seq rfl (dgs_c (pgs_cons (dg_n (pg_name (i := 2) sc.nd rfl (by first | exact Or.inl rfl | exact Or.inr rfl))) (dgs_c (pgs_cons (dg_n (pg_name (i := 3) sc.nd rfl (by first | exact Or.inl rfl | exact Or.inr rfl))) dgs_n))))))) (fun _ _ _ _ _ => dts_nil) (fun _ _ _ _ _ => (de_call (ok_is_integer T) (hr.mono (by decide)) T.g_is_integer T.F_is_integer.kp T.b_is_integer takes0 (da_cons (de_v (pv 3)) da_nil))) sc.nd)))) (de_and1 (de_call (ok_fits_shape T) (hr.mono (by decide)) T.g_fits_shape T.F_fits_shape.kp T.b_fits_shape (takes_of rfl rfl rfl rfl) (da_cons (de_call (ok_sizes_in T) (hr.mono (by decide)) T.g_sizes_in T.F_sizes_in.kp T.b_sizes_in (takes_of rfl rfl rfl rfl) (da_cons (de_v (pv 0)) da_nil)) da_nil))))) dss_nil))
/-! fits_walk -/
def b_fits_walk : Sx := (sSeq (sRet (eAnd (eCall m_is_tuple_of (aC (eV 0) (aC (eC (.int 2)) (aC (eC (.int 2)) aN)))) (eAnd (eCall m_is_integer (aC (e2 dIx (eV 0) (eC (.int 0))) aN)) (eCall m_fits_pairs (aC (e2 dIx (eV 0) (eC (.int 1))) aN))))) sNx)
def m_fits_walk : List D → C → R D := dDef 1 b_fits_walk
theorem sc_fits_walk : FnScope ["value"] ["value"] (defScope (topS 15)) := ⟨rfl, rfl, rfl, by decide +kernel, rfl, by decide +kernel, by decide +kernel⟩
theorem ok_fits_walk (T : Tx K mg fa fd ec) : FnOk P w K mg base (L2.CX P w) 5 (fa 7) (fd 7) ["value"] (spD ⟨K, fa, ec, TT⟩ 1 m_fits_walk) := by
  have sc := sc_fits_walk
  refine ok_def T.F_fits_walk sc rfl [] fun cdv A outer s H E hr => ?_
  exact (dss_cons (ds_ret (de_and (de_call (ok_is_tuple_of T) (hr.mono (by decide)) T.g_is_tuple_of T.F_is_tuple_of.kp T.b_is_tuple_of (takes_of rfl rfl rfl rfl) (da_cons (de_v (pv 0)) (da_cons de_int (da_cons de_int da_nil)))) (de_and (de_call (ok_is_integer T) (hr.mono (by decide)) T.g_is_integer T.F_is_integer.kp T.b_is_integer (takes_of rfl rfl rfl rfl) (da_cons (de_ix ix_seq o_ix (sh (de_v (pv 0))) (sh de_int)) da_nil)) (de_and1 (de_call (ok_fits_pairs T) (hr.mono (by decide)) T.g_fits_pairs T.F_fits_pairs.kp T.b_fits_pairs (takes_of rfl rfl rfl rfl) (da_cons (de_ix ix_seq o_ix (sh (de_v (pv 0))) (sh de_int)) da_nil)))))) dss_nil)
/-! need_walk -/
def b_need_walk : Sx := (sSeq (sIf (DL.tNot (eT (eCall m_fits_walk (aC (eV 0) aN)))) (sSeq (sRaise 2) sNx) sNx) sNx)
def m_need_walk : List D → C → R D := dDef 1 b_need_walk
theorem sc_need_walk : FnScope ["value"] ["value"] (defScope (topS 16)) := ⟨rfl, rfl, rfl, by decide +kernel, rfl, by decide +kernel, by decide +kernel⟩
theorem ok_need_walk (T : Tx K mg fa fd ec) : FnOk P w K mg base (L2.CX P w) 6 (fa 8) (fd 8) ["value"] (spD ⟨K, fa, ec, TT⟩ 1 m_need_walk) := by
  have sc := sc_need_walk
  refine ok_def T.F_need_walk sc rfl [] fun cdv A outer s H E hr => ?_
  exact (dss_cons (ds_if (dt_not (dt_val (de_call (ok_fits_walk T) (hr.mono (by decide)) T.g_fits_walk T.F_fits_walk.kp T.b_fits_walk (takes_of rfl rfl rfl rfl) (da_cons (de_v (pv 0)) da_nil)))) (dss_cons (ds_raise (ps_raise rfl (takes_of rfl rfl rfl rfl) (pmk_own PySem.F.excBase_ValueError T.x_InvalidWalk T.e_InvalidWalk T.k_InvalidWalk (raises_own T.s_InvalidWalk T.t_InvalidWalk) (by rfl)))) dss_nil) dss_nil) dss_nil)
/-! digits_in -/
def b_digits_in : Sx := (sSeq (sSet 2 (eLst aN)) (sSeq (sFor (iSeq (eV 0)) (bN 3) (sForget [3] (sSeq (sApp 2 (e2 (dInt2 iMod) (eV 1) (eV 3))) (sSeq (sSet 1 (e2 (dInt2 iDiv) (eV 1) (eV 3))) sNx)))) (sSeq (sRet (e1 dTuple (eV 2))) sNx)))
def m_digits_in : List D → C → R D := dDef 4 b_digits_in
theorem sc_digits_in : FnScope ["sizes", "place", "found", "size"] ["sizes", "place"] (defScope (topS 17)) := ⟨rfl, rfl, rfl, by decide +kernel, rfl, by decide +kernel, by decide +kernel⟩
theorem ok_digits_in (T : Tx K mg fa fd ec) : FnOk P w K mg base (L2.CX P w) 1 (fa 9) (fd 9) ["sizes", "place"] (spD ⟨K, fa, ec, TT⟩ 2 m_digits_in) := by
  have sc := sc_digits_in
  refine ok_def T.F_digits_in sc rfl [2] fun cdv A outer s H E hr => ?_
  exact (dss_cons (ds_own (i := 2) (m' := [2]) (ps_set (i := 2) sc.nd rfl (by first | exact Or.inl rfl | exact Or.inr rfl) (df_lst da_nil)) (fun _ _ _ h => h) (by simp) (by simp)) (dss_cons (ds_for (vs := [3]) (di_seq (de_v (pv 0))) (dg_n (pg_name (i := 3) sc.nd rfl (by first | exact Or.inl rfl | exact Or.inr rfl))) (dss_forget [3] (dss_cons (ds_app (i := 2) (ps_expr (pe_bm PySem.F.plainAttrs_list PySem.F.slot_list_append PySem.F.type_list_append mt_append (pv 2) (pa_cons (de_op op_mod o_mod (sh (de_v (pv 1))) (sh (de_v (pv 3)))) pa_nil))) (fun _ _ _ h => h)) (dss_cons (ds_set (i := 1) (ps_set (i := 1) sc.nd rfl (by first | exact Or.inl rfl | exact Or.inr rfl) (de_op op_fdivW o_div (sh (de_v (pv 1))) (sh (de_v (pv 3))))) (fun _ _ _ h => h)) dss_nil))) (passes_of rfl)) (dss_cons (ds_ret (de_t1 call_tupN o_tuple T.n_tuple boot_tuple (ds_v (pv 2)))) dss_nil)))
/-! list_in -/
def b_list_in : Sx := (sSeq (sSet 1 (eLst (aC (e2 dIx (eV 0) (eC (.int 0))) aN))) (sSeq (sFor (iSeq (e2 dIx (eV 0) (eC (.int 1)))) (bT (bsC (bN 2) (bsC (bN 3) bsN))) (sForget [2, 3, 4, 5] (sSeq (sSet 4 (eLst aN)) (sSeq (sFor (iRange1 (eV 2)) (bN 5) (sForget [5] (sSeq (sExt 4 (eLc (iSeq (eV 1)) [6] (bN 6) DL.tYes (e2 dCat (eV 6) (e2 (dInt2 iMul) (eV 5) (eV 3))))) sNx))) (sSeq (sMove 1 4) sNx))))) (sSeq (sRet (e1 dTuple (eV 1))) sNx)))
def m_list_in : List D → C → R D := dDef 7 b_list_in
theorem sc_list_in : FnScope ["walk", "found", "size", "step", "longer", "digit", "own"] ["walk"] (defScope (topS 19)) := ⟨rfl, rfl, rfl, by decide +kernel, rfl, by decide +kernel, by decide +kernel⟩
theorem ok_list_in (T : Tx K mg fa fd ec) : FnOk P w K mg base (L2.CX P w) 1 (fa 10) (fd 10) ["walk"] (spD ⟨K, fa, ec, TT⟩ 1 m_list_in) := by
  have sc := sc_list_in
  refine ok_def T.F_list_in sc rfl [] fun cdv A outer s H E hr => ?_
  exact (dss_cons (ds_set (i := 1) (ps_set (i := 1) sc.nd rfl (by first | exact Or.inl rfl | exact Or.inr rfl) (fr (df_lst (da_cons (de_ix ix_seq o_ix (sh (de_v (pv 0))) (sh de_int)) da_nil)))) (fun _ _ _ h => h)) (dss_cons (ds_for (vs := [2, 3]) (di_seq (de_ix ix_seq o_ix (sh (de_v (pv 0))) (sh de_int))) (dg_t (fun _ _ _ h => bsC_len (fun _ _ _ h => bsC_len (fun _ _ _ h => bsN_len h) h) h) (pg_seq rfl (dgs_c (pgs_cons (dg_n (pg_name (i := 2) sc.nd rfl (by first | exact Or.inl rfl | exact Or.inr rfl))) (dgs_c (pgs_cons (dg_n (pg_name (i := 3) sc.nd rfl (by first | exact Or.inl rfl | exact Or.inr rfl))) dgs_n)))))) (dss_forget [2, 3, 4, 5] (dss_cons (ds_own (i := 4) (m' := [4]) (ps_set (i := 4) sc.nd rfl (by first | exact Or.inl rfl | exact Or.inr rfl) (df_lst da_nil)) (fun _ _ _ h => h) (by simp) (by simp)) (dss_cons (ds_for (vs := [5]) (di_range1 (de_v (pv 2)) T.n_range) (dg_n (pg_name (i := 5) sc.nd rfl (by first | exact Or.inl rfl | exact Or.inr rfl))) (dss_forget [5] (dss_cons (ds_ext (i := 4) (ps_expr (pe_bm PySem.F.plainAttrs_list PySem.F.slot_list_extend PySem.F.type_list_extend mt_extend (pv 4) (pa_cons (df_lc (own := [("own", 6)]) (di_seqS (sh (de_v (pv 1)))) (blkOk_by (by kernel_rfl)) (fun _ _ _ _ _ => (dg_n (pg_name (i := 6) sc.nd rfl (by first | exact Or.inl rfl | exact Or.inr rfl)))) (fun _ _ _ _ _ => dts_nil) (fun _ _ _ _ _ => (de_op op_catAll o_cat (sh (de_v (pv 6))) (sh (de_op op_mulA o_mul (sh (de_v (pv 5))) (sh (de_v (pv 3))))))) sc.nd) pa_nil))) (fun _ _ _ h => h)) dss_nil)) (passes_of rfl)) (dss_cons (ds_move (i := 4) (j := 1) (m' := []) (ps_set (i := 1) sc.nd rfl (by first | exact Or.inl rfl | exact Or.inr rfl) (pv 4))) dss_nil)))) (passes_of rfl)) (dss_cons (ds_ret (de_t1 call_tupN o_tuple T.n_tuple boot_tuple (sh (de_v (pv 1))))) dss_nil)))
/-! need_integer -/
def b_need_integer : Sx := (sSeq (sIf (DL.tNot (eT (eCall m_is_integer (aC (eV 0) aN)))) (sSeq (sRaise 1) sNx) sNx) sNx)
def m_need_integer : List D → C → R D := dDef 1 b_need_integer
theorem sc_need_integer : FnScope ["value"] ["value"] (defScope (topS 21)) := ⟨rfl, rfl, rfl, by decide +kernel, rfl, by decide +kernel, by decide +kernel⟩
theorem ok_need_integer (T : Tx K mg fa fd ec) : FnOk P w K mg base (L2.CX P w) 2 (fa 11) (fd 11) ["value"] (spD ⟨K, fa, ec, TT⟩ 1 m_need_integer) := by
  have sc := sc_need_integer
  refine ok_def T.F_need_integer sc rfl [] fun cdv A outer s H E hr => ?_
  exact (dss_cons (ds_if (dt_not (dt_val (de_call (ok_is_integer T) (hr.mono (by decide)) T.g_is_integer T.F_is_integer.kp T.b_is_integer (takes_of rfl rfl rfl rfl) (da_cons (de_v (pv 0)) da_nil)))) (dss_cons (ds_raise (ps_raise rfl (takes_of rfl rfl rfl rfl) (pmk_own PySem.F.excBase_ValueError T.x_InvalidNumber T.e_InvalidNumber T.k_InvalidNumber (raises_own T.s_InvalidNumber T.t_InvalidNumber) (by rfl)))) dss_nil) dss_nil) dss_nil)
/-! places_by_number, by hand -/
def b_places_by_number : Sx := posB
def m_places_by_number : List D → C → R D := dDef 4 posB
theorem sc_places_by_number : FnScope ["numbers", "found", "place", "number"] ["numbers"] (defScope (topS 22)) := ⟨rfl, rfl, rfl, by decide +kernel, rfl, by decide +kernel, by decide +kernel⟩
theorem ok_places_by_number (T : Tx K mg fa fd ec) : FnOk P w K mg base (L2.CX P w) 2 (fa 12) (fd 12) ["numbers"] (spD ⟨K, fa, ec, TT⟩ 1 m_places_by_number) := by
  have sc := sc_places_by_number
  refine ok_def T.F_places_by_number sc rfl [] fun cdv A outer s H E hr => ?_
  exact PSs.imp (pss_cons (ps_set (i := 1) sc.nd rfl (by first | exact Or.inl rfl | exact Or.inr rfl) pe_dnewK) (pss_cons (ps_for (passes_of rfl) rfl (pi_enumA rfl T.n_enumerate (pa_cons (pv 0) pa_nil (by rfl)) rfl) (pg_tup rfl (pgs_cons (pg_name (i := 2) sc.nd rfl (by first | exact Or.inl rfl | exact Or.inr rfl)) (pgs_cons (pg_name (i := 3) sc.nd rfl (by first | exact Or.inl rfl | exact Or.inr rfl)) pgs_nil)))
    (pss_cons (ps_expr (pe_bm PySem.F.plainAttrs_list PySem.F.slot_list_append PySem.F.type_list_append mt_append (pe_dsetd (pv 1) (pv 3) (pe_lst pa_nil) ⟨rfl, rfl, rfl, rfl⟩) (pa_cons (pv 2) pa_nil (by rfl)))) pss_nil)) (pss_cons (ps_ret (pe_still (pv 1))) pss_nil))) fun D σ H h => pos_run (φ := ⟨K, fa, ec, TT⟩) rfl h

/-! first_in -/
def b_first_in : Sx := (sSeq (sSet 1 (eLc (iVal (eCall m_places_by_number (aC (eV 0) aN))) [2] (bN 2) (eT (e2 dGt (e1 dLenA (eV 2)) (eC (.int 1)))) (e1 dTuple (eSl dSl (eV 2) oN (oS (eC (.int 2))))))) (sSeq (sRet (eIf (eT (e2 dNe (eV 1) (eLst aN))) (e1 dMinA (eV 1)) (eC .non))) sNx))
def m_first_in : List D → C → R D := dDef 3 b_first_in
theorem sc_first_in : FnScope ["numbers", "rows", "places"] ["numbers"] (defScope (topS 23)) := ⟨rfl, rfl, rfl, by decide +kernel, rfl, by decide +kernel, by decide +kernel⟩
theorem ok_first_in (T : Tx K mg fa fd ec) : FnOk P w K mg base (L2.CX P w) 3 (fa 13) (fd 13) ["numbers"] (spD ⟨K, fa, ec, TT⟩ 1 m_first_in) := by
  have sc := sc_first_in
  refine ok_def T.F_first_in sc rfl [] fun cdv A outer s H E hr => ?_
  exact (dss_cons (ds_set (i := 1) (ps_setLc (i := 1) (own := [("places", 2)]) rfl sc.nd rfl rfl (sw_true rfl rfl rfl (by decide +kernel)) (ic (di_val (de_call (ok_places_by_number T) (hr.mono (by decide)) T.g_places_by_number T.F_places_by_number.kp T.b_places_by_number (takes_of rfl rfl rfl rfl) (da_cons (de_v (pv 0)) da_nil)))) (blkOk_by (by kernel_rfl)) (fun _ _ _ _ _ => (dg_n (pg_name (i := 2) sc.nd rfl (by first | exact Or.inl rfl | exact Or.inr rfl)))) (fun _ _ _ _ _ => (dts_one (dt_cmp op_gt o_gt (sh (de_b1 call_lenA o_lenA T.n_len PySem.boot_len (sh (de_v (pv 2))))) (sh de_int) (nomark _)))) (fun _ _ _ _ _ => (de_t1 call_tupN o_tuple T.n_tuple boot_tuple (sh (de_sl sl_all o_sl (sh (de_v (pv 2))) do_n (do_s de_int)))))) (fun _ _ _ h => lc_run (tF_of h))) (dss_cons (ds_ret (de_if (dt_cmp (op_neD hr.units) o_ne (sh (de_v (pv 1))) (sh (fr (df_lst da_nil))) (nomark _)) (de_b1 (cr_minA rfl hr.units) o_minA T.n_min (by decide +kernel) (sh (de_v (pv 1)))) de_non)) dss_nil))
/-! meets_itself -/
def b_meets_itself : Sx := (sSeq (sDrop (eCall m_need_walk (aC (eV 0) aN))) (sSeq (sRet (e2 dIsNot (eCall m_first_in (aC (eCall m_list_in (aC (eV 0) aN)) aN)) (eC .non))) sNx))
def m_meets_itself : List D → C → R D := dDef 1 b_meets_itself
theorem sc_meets_itself : FnScope ["walk"] ["walk"] (defScope (topS 24)) := ⟨rfl, rfl, rfl, by decide +kernel, rfl, by decide +kernel, by decide +kernel⟩
theorem ok_meets_itself (T : Tx K mg fa fd ec) : FnOk P w K mg base (L2.CX P w) 7 (fa 14) (fd 14) ["walk"] (spD ⟨K, fa, ec, TT⟩ 1 m_meets_itself) := by
  have sc := sc_meets_itself
  refine ok_def T.F_meets_itself sc rfl [] fun cdv A outer s H E hr => ?_
  exact (dss_cons (ds_expr (de_call (ok_need_walk T) (hr.mono (by decide)) T.g_need_walk T.F_need_walk.kp T.b_need_walk (takes_of rfl rfl rfl rfl) (da_cons (de_v (pv 0)) da_nil))) (dss_cons (ds_ret (de_cmp op_notN o_isNot (sh (de_call (ok_first_in T) (hr.mono (by decide)) T.g_first_in T.F_first_in.kp T.b_first_in (takes_of rfl rfl rfl rfl) (da_cons (de_call (ok_list_in T) (hr.mono (by decide)) T.g_list_in T.F_list_in.kp T.b_list_in (takes_of rfl rfl rfl rfl) (da_cons (de_v (pv 0)) da_nil)) da_nil))) (sh de_non) (nomark _))) dss_nil))
/-! first_places -/
def b_first_places : Sx := (sSeq (sDrop (eCall m_need_walk (aC (eV 0) aN))) (sSeq (sRet (eCall m_first_in (aC (eCall m_list_in (aC (eV 0) aN)) aN))) sNx))
def m_first_places : List D → C → R D := dDef 1 b_first_places
theorem sc_first_places : FnScope ["walk"] ["walk"] (defScope (topS 25)) := ⟨rfl, rfl, rfl, by decide +kernel, rfl, by decide +kernel, by decide +kernel⟩
theorem ok_first_places (T : Tx K mg fa fd ec) : FnOk P w K mg base (L2.CX P w) 7 (fa 15) (fd 15) ["walk"] (spD ⟨K, fa, ec, TT⟩ 1 m_first_places) := by
  have sc := sc_first_places
  refine ok_def T.F_first_places sc rfl [] fun cdv A outer s H E hr => ?_
  exact (dss_cons (ds_expr (de_call (ok_need_walk T) (hr.mono (by decide)) T.g_need_walk T.F_need_walk.kp T.b_need_walk (takes_of rfl rfl rfl rfl) (da_cons (de_v (pv 0)) da_nil))) (dss_cons (ds_ret (de_call (ok_first_in T) (hr.mono (by decide)) T.g_first_in T.F_first_in.kp T.b_first_in (takes_of rfl rfl rfl rfl) (da_cons (de_call (ok_list_in T) (hr.mono (by decide)) T.g_list_in T.F_list_in.kp T.b_list_in (takes_of rfl rfl rfl rfl) (da_cons (de_v (pv 0)) da_nil)) da_nil))) dss_nil))
/-! is_meeting -/
def b_is_meeting : Sx := (sSeq (sDrop (eCall m_need_walk (aC (eV 0) aN))) (sSeq (sSet 2 (eCall m_list_in (aC (eV 0) aN))) (sSeq (sIf (DL.tOr (DL.tNot (eT (eCall m_is_tuple_of (aC (eV 1) (aC (eC (.int 2)) (aC (eC (.int 2)) aN)))))) (DL.tNot (eT (e1 dAll (eLc (iSeq (eV 1)) [3] (bN 3) DL.tYes (eCall m_is_number (aC (eV 3) (aC (eC (.int 0)) (aC (e2 dSub (e1 dLenA (eV 2)) (eC (.int 1))) aN))))))))) (sSeq (sRet (eC (.bl false))) sNx) sNx) (sSeq (sRet (eAnd (e2 dLt (e2 dIx (eV 1) (eC (.int 0))) (e2 dIx (eV 1) (eC (.int 1)))) (e2 dEq (e2 dIx (eV 2) (e2 dIx (eV 1) (eC (.int 0)))) (e2 dIx (eV 2) (e2 dIx (eV 1) (eC (.int 1))))))) sNx))))
def m_is_meeting : List D → C → R D := dDef 4 b_is_meeting
theorem sc_is_meeting : FnScope ["walk", "value", "numbers", "place"] ["walk", "value"] (defScope (topS 26)) := ⟨rfl, rfl, rfl, by decide +kernel, rfl, by decide +kernel, by decide +kernel⟩
theorem ok_is_meeting (T : Tx K mg fa fd ec) : FnOk P w K mg base (L2.CX P w) 7 (fa 16) (fd 16) ["walk", "value"] (spD ⟨K, fa, ec, TT⟩ 2 m_is_meeting) := by
  have sc := sc_is_meeting
  refine ok_def T.F_is_meeting sc rfl [] fun cdv A outer s H E hr => ?_
  exact (dss_cons (ds_expr (de_call (ok_need_walk T) (hr.mono (by decide)) T.g_need_walk T.F_need_walk.kp T.b_need_walk (takes_of rfl rfl rfl rfl) (da_cons (de_v (pv 0)) da_nil))) (dss_cons (ds_set (i := 2) (ps_set (i := 2) sc.nd rfl (by first | exact Or.inl rfl | exact Or.inr rfl) (de_call (ok_list_in T) (hr.mono (by decide)) T.g_list_in T.F_list_in.kp T.b_list_in (takes_of rfl rfl rfl rfl) (da_cons (de_v (pv 0)) da_nil))) (fun _ _ _ h => h)) (dss_cons (ds_if (dw_or (dt_not (dt_val (de_call (ok_is_tuple_of T) (hr.mono (by decide)) T.g_is_tuple_of T.F_is_tuple_of.kp T.b_is_tuple_of (takes_of rfl rfl rfl rfl) (da_cons (de_v (pv 1)) (da_cons de_int (da_cons de_int da_nil)))))) (dw_or1 (dt_not (dt_val (de_b1 (cr_all rfl) o_all T.n_all (by decide +kernel) (sh (fr (df_lc (own := [("place", 3)]) (di_seqS (sh (de_v (pv 1)))) (blkOk_by (by kernel_rfl)) (fun _ _ _ _ _ => (dg_n (pg_name (i := 3) sc.nd rfl (by first | exact Or.inl rfl | exact Or.inr rfl)))) (fun _ _ _ _ _ => dts_nil) (fun _ _ _ _ _ => (de_call (ok_is_number T) (hr.mono (by decide)) T.g_is_number T.F_is_number.kp T.b_is_number takes0 (da_cons (de_v (pv 3)) (da_cons de_int (da_cons (de_op op_sub o_sub (sh (de_b1 call_lenA o_lenA T.n_len PySem.boot_len (sh (de_v (pv 2))))) (sh de_int)) da_nil))))) sc.nd)))))))).pt (dss_cons (ds_ret de_bl) dss_nil) dss_nil) (dss_cons (ds_ret (de_and (de_cmp op_lt o_lt (sh (de_ix ix_seq o_ix (sh (de_v (pv 1))) (sh de_int))) (sh (de_ix ix_seq o_ix (sh (de_v (pv 1))) (sh de_int))) (nomark _)) (de_and1 (de_cmp (op_eqD hr.units) o_eq (sh (de_ix ix_seq o_ix (sh (de_v (pv 2))) (sh (de_ix ix_seq o_ix (sh (de_v (pv 1))) (sh de_int))))) (sh (de_ix ix_seq o_ix (sh (de_v (pv 2))) (sh (de_ix ix_seq o_ix (sh (de_v (pv 1))) (sh de_int))))) (nomark _))))) dss_nil))))
/-! difference_row -/
def b_difference_row : Sx := (sSeq (sDrop (eCall m_need_walk (aC (eV 0) aN))) (sSeq (sSet 1 (eCall m_first_in (aC (eCall m_list_in (aC (eV 0) aN)) aN))) (sSeq (sIf (eT (e2 dIs (eV 1) (eC .non))) (sSeq (sRet (eC .non)) sNx) sNx) (sSeq (sBd (bT (bsC (bN 2) (bsC (bN 3) bsN))) (eLc (iSeq (eV 1)) [4] (bN 4) DL.tYes (eCall m_digits_in (aC (eCall m_sizes_in (aC (e2 dIx (eV 0) (eC (.int 1))) aN)) (aC (eV 4) aN))))) (sSeq (sRet (e1 dTuple (eLc (iZip (eV 2) (eV 3)) [5, 6] (bT (bsC (bN 5) (bsC (bN 6) bsN))) DL.tYes (e2 dSub (eV 6) (eV 5))))) sNx)))))
def m_difference_row : List D → C → R D := dDef 7 b_difference_row
theorem sc_difference_row : FnScope ["walk", "found", "one", "other", "place", "first", "second"] ["walk"] (defScope (topS 27)) := ⟨rfl, rfl, rfl, by decide +kernel, rfl, by decide +kernel, by decide +kernel⟩
theorem ok_difference_row (T : Tx K mg fa fd ec) : FnOk P w K mg base (L2.CX P w) 7 (fa 17) (fd 17) ["walk"] (spD ⟨K, fa, ec, TT⟩ 1 m_difference_row) := by
  have sc := sc_difference_row
  refine ok_def T.F_difference_row sc rfl [] fun cdv A outer s H E hr => ?_
  exact (dss_cons (ds_expr (de_call (ok_need_walk T) (hr.mono (by decide)) T.g_need_walk T.F_need_walk.kp T.b_need_walk (takes_of rfl rfl rfl rfl) (da_cons (de_v (pv 0)) da_nil))) (dss_cons (ds_set (i := 1) (ps_set (i := 1) sc.nd rfl (by first | exact Or.inl rfl | exact Or.inr rfl) (de_call (ok_first_in T) (hr.mono (by decide)) T.g_first_in T.F_first_in.kp T.b_first_in (takes_of rfl rfl rfl rfl) (da_cons (de_call (ok_list_in T) (hr.mono (by decide)) T.g_list_in T.F_list_in.kp T.b_list_in (takes_of rfl rfl rfl rfl) (da_cons (de_v (pv 0)) da_nil)) da_nil))) (fun _ _ _ h => h)) (dss_cons (ds_if (dt_cmp op_isN o_is (sh (de_v (pv 1))) (sh de_non) (nomark _)) (dss_cons (ds_ret de_non) dss_nil) dss_nil) (dss_cons (ds_bd (vs := [2, 3]) (ps_asg (fr (df_lc (own := [("place", 4)]) (di_seqS (sh (de_v (pv 1)))) (blkOk_by (by kernel_rfl)) (fun _ _ _ _ _ => (dg_n (pg_name (i := 4) sc.nd rfl (by first | exact Or.inl rfl | exact Or.inr rfl)))) (fun _ _ _ _ _ => dts_nil) (fun _ _ _ _ _ => (de_call (ok_digits_in T) (hr.mono (by decide)) T.g_digits_in T.F_digits_in.kp T.b_digits_in takes0 (da_cons (de_call (ok_sizes_in T) (hr.mono (by decide)) T.g_sizes_in T.F_sizes_in.kp T.b_sizes_in takes0 (da_cons (de_ix ix_seq o_ix (sh (de_v (pv 0))) (sh de_int)) da_nil)) (da_cons (de_v (pv 4)) da_nil)))) sc.nd)) (dg_t (fun _ _ _ h => bsC_len (fun _ _ _ h => bsC_len (fun _ _ _ h => bsN_len h) h) h) (pg_seq rfl (dgs_c (pgs_cons (dg_n (pg_name (i := 2) sc.nd rfl (by first | exact Or.inl rfl | exact Or.inr rfl))) (dgs_c (pgs_cons (dg_n (pg_name (i := 3) sc.nd rfl (by first | exact Or.inl rfl | exact Or.inr rfl))) dgs_n))))))) (fun _ _ _ h => h)) (dss_cons (ds_ret (de_t1 call_tupN o_tuple T.n_tuple boot_tuple (sh (fr (df_lc (own := [("first", 5), ("second", 6)]) (ic (di_zip (de_v (pv 2)) (de_v (pv 3)) T.n_zip)) (blkOk_by (by kernel_rfl)) (fun _ _ _ _ _ => (dg_t (fun _ _ _ h => bsC_len (fun _ _ _ h => bsC_len (fun _ _ _ h => bsN_len h) h) h) (pg_seq rfl (dgs_c (pgs_cons (dg_n (pg_name (i := 5) sc.nd rfl (by first | exact Or.inl rfl | exact Or.inr rfl))) (dgs_c (pgs_cons (dg_n (pg_name (i := 6) sc.nd rfl (by first | exact Or.inl rfl | exact Or.inr rfl))) dgs_n))))))) (fun _ _ _ _ _ => dts_nil) (fun _ _ _ _ _ => (de_op op_sub o_sub (sh (de_v (pv 6))) (sh (de_v (pv 5))))) sc.nd))))) dss_nil)))))
/-! is_difference_row -/
def b_is_difference_row : Sx := (sSeq (sDrop (eCall m_need_walk (aC (eV 0) aN))) (sSeq (sSet 2 (e2 dIx (eV 0) (eC (.int 1)))) (sSeq (sIf (DL.tNot (eT (eCall m_is_tuple_of (aC (eV 1) (aC (e1 dLenA (eV 2)) (aC (e1 dLenA (eV 2)) aN)))))) (sSeq (sRet (eC (.bl false))) sNx) sNx) (sSeq (sIf (DL.tNot (eT (e1 dAll (eLc (iZip (eV 1) (eV 2)) [3, 4, 5] (bT (bsC (bN 3) (bsC (bT (bsC (bN 4) (bsC (bN 5) bsN))) bsN))) DL.tYes (eCall m_is_number (aC (eV 3) (aC (e2 dSub (eC (.int 1)) (eV 4)) (aC (e2 dSub (eV 4) (eC (.int 1))) aN)))))))) (sSeq (sRet (eC (.bl false))) sNx) sNx) (sSeq (sRet (eAnd (e1 dAny (eLc (iSeq (eV 1)) [3] (bN 3) DL.tYes (e2 dNe (eV 3) (eC (.int 0))))) (e2 dEq (e1 dSum (eLc (iZip (eV 1) (eV 2)) [3, 4, 5] (bT (bsC (bN 3) (bsC (bT (bsC (bN 4) (bsC (bN 5) bsN))) bsN))) DL.tYes (e2 (dInt2 iMul) (eV 3) (eV 5)))) (eC (.int 0))))) sNx)))))
def m_is_difference_row : List D → C → R D := dDef 6 b_is_difference_row
theorem sc_is_difference_row : FnScope ["walk", "value", "pairs", "own", "size", "step"] ["walk", "value"] (defScope (topS 28)) := ⟨rfl, rfl, rfl, by decide +kernel, rfl, by decide +kernel, by decide +kernel⟩
theorem ok_is_difference_row (T : Tx K mg fa fd ec) : FnOk P w K mg base (L2.CX P w) 7 (fa 18) (fd 18) ["walk", "value"] (spD ⟨K, fa, ec, TT⟩ 2 m_is_difference_row) := by
  have sc := sc_is_difference_row
  refine ok_def T.F_is_difference_row sc rfl [] fun cdv A outer s H E hr => ?_
  exact (dss_cons (ds_expr (de_call (ok_need_walk T) (hr.mono (by decide)) T.g_need_walk T.F_need_walk.kp T.b_need_walk (takes_of rfl rfl rfl rfl) (da_cons (de_v (pv 0)) da_nil))) (dss_cons (ds_set (i := 2) (ps_set (i := 2) sc.nd rfl (by first | exact Or.inl rfl | exact Or.inr rfl) (de_ix ix_seq o_ix (sh (de_v (pv 0))) (sh de_int))) (fun _ _ _ h => h)) (dss_cons (ds_if (dt_not (dt_val (de_call (ok_is_tuple_of T) (hr.mono (by decide)) T.g_is_tuple_of T.F_is_tuple_of.kp T.b_is_tuple_of (takes_of rfl rfl rfl rfl) (da_cons (de_v (pv 1)) (da_cons (de_b1 call_lenA o_lenA T.n_len PySem.boot_len (sh (de_v (pv 2)))) (da_cons (de_b1 call_lenA o_lenA T.n_len PySem.boot_len (sh (de_v (pv 2)))) da_nil)))))) (dss_cons (ds_ret de_bl) dss_nil) dss_nil) (dss_cons (ds_if (dt_not (dt_val (de_b1 (cr_all rfl) o_all T.n_all (by decide +kernel) (sh (fr (df_lc (own := [("own", 3), ("size", 4), ("step", 5)]) (ic (di_zip (de_v (pv 1)) (de_v (pv 2)) T.n_zip)) (blkOk_by (by kernel_rfl)) (fun _ _ _ _ _ => (dg_t (fun _ _ _ h => bsC_len (fun _ _ _ h => bsC_len (fun _ _ _ h => bsN_len h) h) h) (pg_seq rfl (dgs_c (pgs_cons (dg_n (pg_name (i := 3) sc.nd rfl (by first | exact Or.inl rfl | exact Or.inr rfl))) (dgs_c (pgs_cons (dg_t (fun _ _ _ h => bsC_len (fun _ _ _ h => bsC_len (fun _ _ _ h => bsN_len h) h) h) (pg_seq rfl (dgs_c (pgs_cons (dg_n (pg_name (i := 4) sc.nd rfl (by first | exact Or.inl rfl | exact Or.inr rfl))) (dgs_c (pgs_cons (dg_n (pg_name (i := 5) sc.nd rfl (by first | exact Or.inl rfl | exact Or.inr rfl))) dgs_n)))))) dgs_n))))))) (fun _ _ _ _ _ => dts_nil) (fun _ _ _ _ _ => (de_call (ok_is_number T) (hr.mono (by decide)) T.g_is_number T.F_is_number.kp T.b_is_number takes0 (da_cons (de_v (pv 3)) (da_cons (de_op op_sub o_sub (sh de_int) (sh (de_v (pv 4)))) (da_cons (de_op op_sub o_sub (sh (de_v (pv 4))) (sh de_int)) da_nil))))) sc.nd)))))) (dss_cons (ds_ret de_bl) dss_nil) dss_nil) (dss_cons (ds_ret (de_and (de_b1 (cr_any rfl) o_any T.n_any (by decide +kernel) (sh (fr (df_lc (own := [("own", 3)]) (di_seqS (sh (de_v (pv 1)))) (blkOk_by (by kernel_rfl)) (fun _ _ _ _ _ => (dg_n (pg_name (i := 3) sc.nd rfl (by first | exact Or.inl rfl | exact Or.inr rfl)))) (fun _ _ _ _ _ => dts_nil) (fun _ _ _ _ _ => (de_cmp (op_neD hr.units) o_ne (sh (de_v (pv 3))) (sh de_int) (nomark _))) sc.nd)))) (de_and1 (de_cmp (op_eqD hr.units) o_eq (sh (de_b1 (cr_sum rfl) o_sum T.n_sum (by decide +kernel) (sh (fr (df_lc (own := [("own", 3), ("size", 4), ("step", 5)]) (ic (di_zip (de_v (pv 1)) (de_v (pv 2)) T.n_zip)) (blkOk_by (by kernel_rfl)) (fun _ _ _ _ _ => (dg_t (fun _ _ _ h => bsC_len (fun _ _ _ h => bsC_len (fun _ _ _ h => bsN_len h) h) h) (pg_seq rfl (dgs_c (pgs_cons (dg_n (pg_name (i := 3) sc.nd rfl (by first | exact Or.inl rfl | exact Or.inr rfl))) (dgs_c (pgs_cons (dg_t (fun _ _ _ h => bsC_len (fun _ _ _ h => bsC_len (fun _ _ _ h => bsN_len h) h) h) (pg_seq rfl (dgs_c (pgs_cons (dg_n (pg_name (i := 4) sc.nd rfl (by first | exact Or.inl rfl | exact Or.inr rfl))) (dgs_c (pgs_cons (dg_n (pg_name (i := 5) sc.nd rfl (by first | exact Or.inl rfl | exact Or.inr rfl))) dgs_n)))))) dgs_n))))))) (fun _ _ _ _ _ => dts_nil) (fun _ _ _ _ _ => (de_op op_mulA o_mul (sh (de_v (pv 3))) (sh (de_v (pv 5))))) sc.nd))))) (sh de_int) (nomark _))))) dss_nil)))))
/-! count_unlike -/
def b_count_unlike : Sx := (sSeq (sDrop (eCall m_need_walk (aC (eV 0) aN))) (sSeq (sRet (e1 dLenA (eCall m_places_by_number (aC (eCall m_list_in (aC (eV 0) aN)) aN)))) sNx))
def m_count_unlike : List D → C → R D := dDef 1 b_count_unlike
theorem sc_count_unlike : FnScope ["walk"] ["walk"] (defScope (topS 29)) := ⟨rfl, rfl, rfl, by decide +kernel, rfl, by decide +kernel, by decide +kernel⟩
theorem ok_count_unlike (T : Tx K mg fa fd ec) : FnOk P w K mg base (L2.CX P w) 7 (fa 19) (fd 19) ["walk"] (spD ⟨K, fa, ec, TT⟩ 1 m_count_unlike) := by
  have sc := sc_count_unlike
  refine ok_def T.F_count_unlike sc rfl [] fun cdv A outer s H E hr => ?_
  exact (dss_cons (ds_expr (de_call (ok_need_walk T) (hr.mono (by decide)) T.g_need_walk T.F_need_walk.kp T.b_need_walk (takes_of rfl rfl rfl rfl) (da_cons (de_v (pv 0)) da_nil))) (dss_cons (ds_ret (de_b1 call_lenA o_lenA T.n_len PySem.boot_len (sh (de_call (ok_places_by_number T) (hr.mono (by decide)) T.g_places_by_number T.F_places_by_number.kp T.b_places_by_number (takes_of rfl rfl rfl rfl) (da_cons (de_call (ok_list_in T) (hr.mono (by decide)) T.g_list_in T.F_list_in.kp T.b_list_in (takes_of rfl rfl rfl rfl) (da_cons (de_v (pv 0)) da_nil)) da_nil))))) dss_nil))
/-! places_of -/
def b_places_of : Sx := (sSeq (sDrop (eCall m_need_walk (aC (eV 0) aN))) (sSeq (sDrop (eCall m_need_integer (aC (eV 1) aN))) (sSeq (sRet (e1 dTuple (eGet2 (eCall m_places_by_number (aC (eCall m_list_in (aC (eV 0) aN)) aN)) (eV 1) (eLst aN)))) sNx)))
def m_places_of : List D → C → R D := dDef 2 b_places_of
theorem sc_places_of : FnScope ["walk", "number"] ["walk", "number"] (defScope (topS 30)) := ⟨rfl, rfl, rfl, by decide +kernel, rfl, by decide +kernel, by decide +kernel⟩
theorem ok_places_of (T : Tx K mg fa fd ec) : FnOk P w K mg base (L2.CX P w) 7 (fa 20) (fd 20) ["walk", "number"] (spD ⟨K, fa, ec, TT⟩ 2 m_places_of) := by
  have sc := sc_places_of
  refine ok_def T.F_places_of sc rfl [] fun cdv A outer s H E hr => ?_
  exact (dss_cons (ds_expr (de_call (ok_need_walk T) (hr.mono (by decide)) T.g_need_walk T.F_need_walk.kp T.b_need_walk (takes_of rfl rfl rfl rfl) (da_cons (de_v (pv 0)) da_nil))) (dss_cons (ds_expr (de_call (ok_need_integer T) (hr.mono (by decide)) T.g_need_integer T.F_need_integer.kp T.b_need_integer (takes_of rfl rfl rfl rfl) (da_cons (de_v (pv 1)) da_nil))) (dss_cons (ds_ret (de_t1 call_tupN o_tuple T.n_tuple boot_tuple (sh (de_get2 (Nat.lt_of_le_of_lt (Nat.add_le_add_left (by decide) _) hr.units) (de_call (ok_places_by_number T) (hr.mono (by decide)) T.g_places_by_number T.F_places_by_number.kp T.b_places_by_number (takes_of rfl rfl rfl rfl) (da_cons (de_call (ok_list_in T) (hr.mono (by decide)) T.g_list_in T.F_list_in.kp T.b_list_in (takes_of rfl rfl rfl rfl) (da_cons (de_v (pv 0)) da_nil)) da_nil)) (de_v (pv 1)) (fr (df_lst da_nil)))))) dss_nil)))
/-! most_told -/
def b_most_told : Sx := (sSeq (sDrop (eCall m_need_walk (aC (eV 0) aN))) (sSeq (sSet 1 (eLc (iItm (eCall m_places_by_number (aC (eCall m_list_in (aC (eV 0) aN)) aN))) [2, 3] (bT (bsC (bN 2) (bsC (bN 3) bsN))) DL.tYes (eTup (aC (e1 dNeg (e1 dLenA (eV 3))) (aC (eV 2) aN))))) (sSeq (sBd (bT (bsC (bN 4) (bsC (bN 2) bsN))) (e1 dMinA (eV 1))) (sSeq (sRet (eTup (aC (e1 dNeg (eV 4)) (aC (eV 2) aN)))) sNx))))
def m_most_told : List D → C → R D := dDef 5 b_most_told
theorem sc_most_told : FnScope ["walk", "rows", "number", "places", "many"] ["walk"] (defScope (topS 31)) := ⟨rfl, rfl, rfl, by decide +kernel, rfl, by decide +kernel, by decide +kernel⟩
theorem ok_most_told (T : Tx K mg fa fd ec) : FnOk P w K mg base (L2.CX P w) 7 (fa 21) (fd 21) ["walk"] (spD ⟨K, fa, ec, TT⟩ 1 m_most_told) := by
  have sc := sc_most_told
  refine ok_def T.F_most_told sc rfl [] fun cdv A outer s H E hr => ?_
  exact (dss_cons (ds_expr (de_call (ok_need_walk T) (hr.mono (by decide)) T.g_need_walk T.F_need_walk.kp T.b_need_walk (takes_of rfl rfl rfl rfl) (da_cons (de_v (pv 0)) da_nil))) (dss_cons (ds_set (i := 1) (ps_setLc (i := 1) (own := [("number", 2), ("places", 3)]) rfl sc.nd rfl rfl (sw_true rfl rfl rfl (by decide +kernel)) (ic (di_itm (de_call (ok_places_by_number T) (hr.mono (by decide)) T.g_places_by_number T.F_places_by_number.kp T.b_places_by_number (takes_of rfl rfl rfl rfl) (da_cons (de_call (ok_list_in T) (hr.mono (by decide)) T.g_list_in T.F_list_in.kp T.b_list_in (takes_of rfl rfl rfl rfl) (da_cons (de_v (pv 0)) da_nil)) da_nil)))) (blkOk_by (by kernel_rfl)) (fun _ _ _ _ _ => (dg_t (fun _ _ _ h => bsC_len (fun _ _ _ h => bsC_len (fun _ _ _ h => bsN_len h) h) h) (pg_seq rfl (dgs_c (pgs_cons (dg_n (pg_name (i := 2) sc.nd rfl (by first | exact Or.inl rfl | exact Or.inr rfl))) (dgs_c (pgs_cons (dg_n (pg_name (i := 3) sc.nd rfl (by first | exact Or.inl rfl | exact Or.inr rfl))) dgs_n))))))) (fun _ _ _ _ _ => dts_nil) (fun _ _ _ _ _ => (de_tup (da_cons (de_un un_neg o_neg (sh (de_b1 call_lenA o_lenA T.n_len PySem.boot_len (sh (de_v (pv 3)))))) (da_cons (de_v (pv 2)) da_nil))))) (fun _ _ _ h => lc_run (tF_of h))) (dss_cons (ds_bd (vs := [2, 4]) (ps_asg (de_b1 (cr_minA rfl hr.units) o_minA T.n_min (by decide +kernel) (sh (de_v (pv 1)))) (dg_t (fun _ _ _ h => bsC_len (fun _ _ _ h => bsC_len (fun _ _ _ h => bsN_len h) h) h) (pg_seq rfl (dgs_c (pgs_cons (dg_n (pg_name (i := 4) sc.nd rfl (by first | exact Or.inl rfl | exact Or.inr rfl))) (dgs_c (pgs_cons (dg_n (pg_name (i := 2) sc.nd rfl (by first | exact Or.inl rfl | exact Or.inr rfl))) dgs_n))))))) (fun _ _ _ h => h)) (dss_cons (ds_ret (de_tup (da_cons (de_un un_neg o_neg (sh (de_v (pv 4)))) (da_cons (de_v (pv 2)) da_nil)))) dss_nil))))
/-! _law_cup -/
def b__law_cup : Sx := (sSeq (sSet 1 (e1 dAbs (e2 dIx (e2 dCat (e1 dList (eV 0)) (eLst (aC (eC (.int 0)) aN))) (eC (.int 0))))) (sSeq (sRet (eLst (aC (eIf (eT (e2 dGe (eV 1) (e2 (dInt2 iPow) (eC (.int 10)) (eC (.int 18))))) (e2 (dInt2 iDiv) (eV 1) (eC (.int 83))) (eC (.int 0))) (aC (e2 dCat (e2 (dInt2 iMod) (e1 dToInt (e2 dCat (e2 (dInt2 iMul) (eV 1) (eC (.int 311))) (eC (.int 8466)))) (eC (.int 2077503221))) (eC (.int 181))) aN)))) sNx))
def m__law_cup : List D → C → R D := dDef 2 b__law_cup
theorem sc__law_cup : FnScope ["script", "cell"] ["script"] (defScope (topS 33)) := ⟨rfl, rfl, rfl, by decide +kernel, rfl, by decide +kernel, by decide +kernel⟩
theorem ok__law_cup (T : Tx K mg fa fd ec) : FnOk P w K mg base (L2.CX P w) 1 (fa 22) (fd 22) ["script"] (spD ⟨K, fa, ec, TT⟩ 1 m__law_cup) := by
  have sc := sc__law_cup
  refine ok_def T.F__law_cup sc rfl [] fun cdv A outer s H E hr => ?_
  exact (dss_cons (ds_set (i := 1) (ps_set (i := 1) sc.nd rfl (by first | exact Or.inl rfl | exact Or.inr rfl) (de_b1 call_abs o_abs T.n_abs boot_abs (sh (de_ix ix_seq o_ix (sh (de_op op_catAll o_cat (sh (de_t1 call_list_of o_list T.n_list boot_list (sh (de_v (pv 0))))) (sh (fr (df_lst (da_cons de_int da_nil)))))) (sh de_int))))) (fun _ _ _ h => h)) (dss_cons (ds_ret (fr (df_lst (da_cons (de_if (dt_cmp op_ge o_ge (sh (de_v (pv 1))) (sh (de_op op_pow o_pow (sh de_int) (sh de_int))) (nomark _)) (de_op op_fdivW o_div (sh (de_v (pv 1))) (sh de_int)) de_int) (da_cons (de_op op_catAll o_cat (sh (de_op op_mod o_mod (sh (de_t1 call_int1 o_toInt T.n_int boot_int (sh (de_op op_catAll o_cat (sh (de_op op_mulA o_mul (sh (de_v (pv 1))) (sh de_int))) (sh de_int))))) (sh de_int))) (sh de_int)) da_nil))))) dss_nil))
/-! _law_roll -/
def b__law_roll : Sx := (sSeq (sIf (eT (e2 dGt (eCup 0 false) (eC (.int 0)))) (sSeq (sSet 2 (e2 (dInt2 iMod) (e1 dToInt (eCup 0 false)) (eV 1))) (sSeq (sCupPut 0 false (e2 (dInt2 iDiv) (eCup 0 false) (eV 1))) (sSeq (sRet (eV 2)) sNx))) sNx) (sSeq (sCupPut 0 true (e2 (dInt2 iMod) (e1 dToInt (e2 dCat (e2 (dInt2 iMul) (eCup 0 true) (eC (.int 30983))) (eC (.int 8039)))) (eC (.int 2147483549)))) (sSeq (sSet 3 (e2 (dInt2 iMod) (e1 dToInt (e2 (dInt2 iMul) (eCup 0 true) (e2 dCat (eCup 0 true) (eC (.int 241))))) (eC (.int 2147483563)))) (sSeq (sRet (e2 (dInt2 iMod) (e1 dToInt (e2 (dInt2 iDiv) (eV 3) (eC (.int 839)))) (eV 1))) sNx))))
def m__law_roll : List D → C → R D := dDef 4 b__law_roll
theorem sc__law_roll : FnScope ["cup", "many", "found", "deep"] ["cup", "many"] (defScope (topS 34)) := ⟨rfl, rfl, rfl, by decide +kernel, rfl, by decide +kernel, by decide +kernel⟩
theorem ok__law_roll (T : Tx K mg fa fd ec) : FnOk P w K mg base (L2.CX P w) 1 (fa 23) (fd 23) ["cup", "many"] (spD ⟨K, fa, ec, TT⟩ 2 m__law_roll) := by
  have sc := sc__law_roll
  refine ok_def T.F__law_roll sc rfl [] fun cdv A outer s H E hr => ?_
  exact (dss_cons (ds_if (dt_cmp op_gt o_gt (sh (de_cup (k := false) rfl (pv 0) pe_int)) (sh de_int) (nomark _)) (dss_cons (ds_set (i := 2) (ps_set (i := 2) sc.nd rfl (by first | exact Or.inl rfl | exact Or.inr rfl) (de_op op_mod o_mod (sh (de_t1 call_int1 o_toInt T.n_int boot_int (sh (de_cup (k := false) rfl (pv 0) pe_int)))) (sh (de_v (pv 1))))) (fun _ _ _ h => h)) (dss_cons (ds_cupPut (i := 0) (k := false) rfl (ps_asg (de_op op_fdivW o_div (sh (de_cup (k := false) rfl (pv 0) pe_int)) (sh (de_v (pv 1)))) (pg_sub (pv 0) pe_int set_list)) (fun _ _ _ h => h)) (dss_cons (ds_ret (de_v (pv 2))) dss_nil))) dss_nil) (dss_cons (ds_cupPut (i := 0) (k := true) rfl (ps_asg (de_op op_mod o_mod (sh (de_t1 call_int1 o_toInt T.n_int boot_int (sh (de_op op_catAll o_cat (sh (de_op op_mulA o_mul (sh (de_cup (k := true) rfl (pv 0) pe_int)) (sh de_int))) (sh de_int))))) (sh de_int)) (pg_sub (pv 0) pe_int set_list)) (fun _ _ _ h => h)) (dss_cons (ds_set (i := 3) (ps_set (i := 3) sc.nd rfl (by first | exact Or.inl rfl | exact Or.inr rfl) (de_op op_mod o_mod (sh (de_t1 call_int1 o_toInt T.n_int boot_int (sh (de_op op_mulA o_mul (sh (de_cup (k := true) rfl (pv 0) pe_int)) (sh (de_op op_catAll o_cat (sh (de_cup (k := true) rfl (pv 0) pe_int)) (sh de_int))))))) (sh de_int))) (fun _ _ _ h => h)) (dss_cons (ds_ret (de_op op_mod o_mod (sh (de_t1 call_int1 o_toInt T.n_int boot_int (sh (de_op op_fdivW o_div (sh (de_v (pv 3))) (sh de_int))))) (sh (de_v (pv 1))))) dss_nil))))
/-! _law_some -/
def b__law_some : Sx := (sSeq (sRet (e2 dIx (eV 1) (eCall m__law_roll (aC (eV 0) (aC (e1 dLenA (eV 1)) aN))))) sNx)
def m__law_some : List D → C → R D := dDef 2 b__law_some
theorem sc__law_some : FnScope ["cup", "things"] ["cup", "things"] (defScope (topS 35)) := ⟨rfl, rfl, rfl, by decide +kernel, rfl, by decide +kernel, by decide +kernel⟩
theorem ok__law_some (T : Tx K mg fa fd ec) : FnOk P w K mg base (L2.CX P w) 2 (fa 24) (fd 24) ["cup", "things"] (spD ⟨K, fa, ec, TT⟩ 2 m__law_some) := by
  have sc := sc__law_some
  refine ok_def T.F__law_some sc rfl [] fun cdv A outer s H E hr => ?_
  exact (dss_cons (ds_ret (de_ix ix_seq o_ix (sh (de_v (pv 1))) (sh (de_call (ok__law_roll T) (hr.mono (by decide)) T.g__law_roll T.F__law_roll.kp T.b__law_roll (takes_of rfl rfl rfl rfl) (da_cons (de_v (pv 0)) (da_cons (de_b1 call_lenA o_lenA T.n_len PySem.boot_len (sh (de_v (pv 1)))) da_nil)))))) dss_nil)
/-! _law_sort -/
def b__law_sort : Sx := (sSeq (sIf (DL.tOr (eT (e2 dIs (eV 0) (eC .non))) (eT (e1 (dIsi "bool") (eV 0)))) (sSeq (sRet (eIf (eT (e2 dIs (eV 0) (eC .non))) (eC (.int 0)) (eC (.int 1)))) sNx) sNx) (sSeq (sIf (DL.tOr (eT (e1 (dIsi "int") (eV 0))) (eT (e1 (dIsi "str") (eV 0)))) (sSeq (sRet (eIf (eT (e1 (dIsi "int") (eV 0))) (eC (.int 2)) (eC (.int 3)))) sNx) sNx) (sSeq (sRet (eIf (eT (e1 (dIsi "tuple") (eV 0))) (eC (.int 4)) (eIf (eT (e1 (dIsi "list") (eV 0))) (eC (.int 5)) (eC (.int 6))))) sNx)))
def m__law_sort : List D → C → R D := dDef 1 b__law_sort
theorem sc__law_sort : FnScope ["value"] ["value"] (defScope (topS 36)) := ⟨rfl, rfl, rfl, by decide +kernel, rfl, by decide +kernel, by decide +kernel⟩
theorem ok__law_sort (T : Tx K mg fa fd ec) : FnOk P w K mg base (L2.CX P w) 1 (fa 25) (fd 25) ["value"] (spD ⟨K, fa, ec, TT⟩ 1 m__law_sort) := by
  have sc := sc__law_sort
  refine ok_def T.F__law_sort sc rfl [] fun cdv A outer s H E hr => ?_
  exact (dss_cons (ds_if (dw_or (dt_cmp op_isN o_is (sh (de_v (pv 0))) (sh de_non) (nomark _)) (dw_or1 (dt_val (de_isi T.n_isinstance T.n_bool boot_bool (sh (de_v (pv 0))))))).pt (dss_cons (ds_ret (de_if (dt_cmp op_isN o_is (sh (de_v (pv 0))) (sh de_non) (nomark _)) de_int de_int)) dss_nil) dss_nil) (dss_cons (ds_if (dw_or (dt_val (de_isi T.n_isinstance T.n_int boot_int (sh (de_v (pv 0))))) (dw_or1 (dt_val (de_isi T.n_isinstance T.n_str boot_str (sh (de_v (pv 0))))))).pt (dss_cons (ds_ret (de_if (dt_val (de_isi T.n_isinstance T.n_int boot_int (sh (de_v (pv 0))))) de_int de_int)) dss_nil) dss_nil) (dss_cons (ds_ret (de_if (dt_val (de_isi T.n_isinstance T.n_tuple boot_tuple (sh (de_v (pv 0))))) de_int (de_if (dt_val (de_isi T.n_isinstance T.n_list boot_list (sh (de_v (pv 0))))) de_int de_int))) dss_nil)))
/-! _law_like -/
def b__law_like (self : List D → C → R D) : Sx := (sSeq (sSet 2 (eCall m__law_sort (aC (eV 1) aN))) (sSeq (sIf (DL.tOr (eT (e2 dNe (eCall m__law_sort (aC (eV 0) aN)) (eV 2))) (eT (e2 dEq (eV 2) (eC (.int 6))))) (sSeq (sRet (eC (.bl false))) sNx) sNx) (sSeq (sIf (eT (e2 dInA (eV 2) (eTup (aC (eC (.int 4)) (aC (eC (.int 5)) aN))))) (sSeq (sRet (eAnd (e2 dEq (e1 dLenA (eV 0)) (e1 dLenA (eV 1))) (e2 dEq (eLc (iZip (eV 0) (eV 1)) [3, 4] (bT (bsC (bN 3) (bsC (bN 4) bsN))) (DL.tNot (eT (eCall self (aC (eV 3) (aC (eV 4) aN))))) (eC (.int 1))) (eLst aN)))) sNx) sNx) (sSeq (sRet (e2 dEq (eV 0) (eV 1))) sNx))))
def mr__law_like : Nat → List D → C → R D
  | 0 => mBad
  | k + 1 => dDef 5 (b__law_like (mr__law_like k))
def m__law_like : List D → C → R D := mr__law_like 30
theorem sc__law_like : FnScope ["one", "other", "sort", "first", "second"] ["one", "other"] (defScope (topS 37)) := ⟨rfl, rfl, rfl, by decide +kernel, rfl, by decide +kernel, by decide +kernel⟩
theorem okr__law_like (T : Tx K mg fa fd ec) : ∀ k : Nat, FnOk P w K mg base (L2.CX P w) (2 + k) (fa 26) (fd 26) ["one", "other"] (spD ⟨K, fa, ec, TT⟩ 2 (mr__law_like k))
  | 0 => ok_bad rfl
  | k + 1 => by
    have sc := sc__law_like
    have ih : FnOk P w K mg base (L2.CX P w) (2 + k) (fa 26) (fd 26) ["one", "other"] (spD ⟨K, fa, ec, TT⟩ 2 (mr__law_like k)) := okr__law_like T k
    refine ok_def (k := 2 + k) T.F__law_like sc rfl [] fun cdv A outer s H E hr => ?_
    exact (dss_cons (ds_set (i := 2) (ps_set (i := 2) sc.nd rfl (by first | exact Or.inl rfl | exact Or.inr rfl) (de_call (ok__law_sort T) (hr.mono (by omega)) T.g__law_sort T.F__law_sort.kp T.b__law_sort (takes_of rfl rfl rfl rfl) (da_cons (de_v (pv 1)) da_nil))) (fun _ _ _ h => h)) (dss_cons (ds_if (dw_or (dt_cmp (op_neD hr.units) o_ne (sh (de_call (ok__law_sort T) (hr.mono (by omega)) T.g__law_sort T.F__law_sort.kp T.b__law_sort (takes_of rfl rfl rfl rfl) (da_cons (de_v (pv 0)) da_nil))) (sh (de_v (pv 2))) (nomark _)) (dw_or1 (dt_cmp (op_eqD hr.units) o_eq (sh (de_v (pv 2))) (sh de_int) (nomark _)))).pt (dss_cons (ds_ret de_bl) dss_nil) dss_nil) (dss_cons (ds_if (dt_cmp (op_inQ hr.units) o_inA (sh (de_v (pv 2))) (sh (de_tup (da_cons de_int (da_cons de_int da_nil)))) rfl) (dss_cons (ds_ret (de_and (de_cmp (op_eqD hr.units) o_eq (sh (de_b1 call_lenA o_lenA T.n_len PySem.boot_len (sh (de_v (pv 0))))) (sh (de_b1 call_lenA o_lenA T.n_len PySem.boot_len (sh (de_v (pv 1))))) (nomark _)) (de_and1 (de_cmp (op_eqD hr.units) o_eq (sh (fr (df_lc (own := [("first", 3), ("second", 4)]) (ic (di_zip (de_v (pv 0)) (de_v (pv 1)) T.n_zip)) (blkOk_by (by kernel_rfl)) (fun _ _ _ _ _ => (dg_t (fun _ _ _ h => bsC_len (fun _ _ _ h => bsC_len (fun _ _ _ h => bsN_len h) h) h) (pg_seq rfl (dgs_c (pgs_cons (dg_n (pg_name (i := 3) sc.nd rfl (by first | exact Or.inl rfl | exact Or.inr rfl))) (dgs_c (pgs_cons (dg_n (pg_name (i := 4) sc.nd rfl (by first | exact Or.inl rfl | exact Or.inr rfl))) dgs_n))))))) (fun _ _ _ _ _ => (dts_one (dt_not (dt_val (de_call ih hr T.g__law_like T.F__law_like.kp T.b__law_like takes0 (da_cons (de_v (pv 3)) (da_cons (de_v (pv 4)) da_nil))))))) (fun _ _ _ _ _ => de_int) sc.nd))) (sh (fr (df_lst da_nil))) (nomark _))))) dss_nil) dss_nil) (dss_cons (ds_ret (de_cmp (op_eqD hr.units) o_eq (sh (de_v (pv 0))) (sh (de_v (pv 1))) (nomark _))) dss_nil))))
theorem ok__law_like (T : Tx K mg fa fd ec) : FnOk P w K mg base (L2.CX P w) 32 (fa 26) (fd 26) ["one", "other"] (spD ⟨K, fa, ec, TT⟩ 2 m__law_like) := okr__law_like T 30
/-! _law_number -/
def b__law_number : Sx := (sSeq (sSet 1 (eC (.int 1))) (sSeq (sFor (iSeq (eV 0)) (bN 2) (sForget [2] (sSeq (sSet 1 (e2 (dInt2 iMul) (eV 1) (eV 2))) sNx))) (sSeq (sRet (eV 1)) sNx)))
def m__law_number : List D → C → R D := dDef 3 b__law_number
theorem sc__law_number : FnScope ["sizes", "found", "size"] ["sizes"] (defScope (topS 38)) := ⟨rfl, rfl, rfl, by decide +kernel, rfl, by decide +kernel, by decide +kernel⟩
theorem ok__law_number (T : Tx K mg fa fd ec) : FnOk P w K mg base (L2.CX P w) 1 (fa 27) (fd 27) ["sizes"] (spD ⟨K, fa, ec, TT⟩ 1 m__law_number) := by
  have sc := sc__law_number
  refine ok_def T.F__law_number sc rfl [] fun cdv A outer s H E hr => ?_
  exact (dss_cons (ds_set (i := 1) (ps_set (i := 1) sc.nd rfl (by first | exact Or.inl rfl | exact Or.inr rfl) de_int) (fun _ _ _ h => h)) (dss_cons (ds_for (vs := [2]) (di_seq (de_v (pv 0))) (dg_n (pg_name (i := 2) sc.nd rfl (by first | exact Or.inl rfl | exact Or.inr rfl))) (dss_forget [2] (dss_cons (ds_set (i := 1) (ps_set (i := 1) sc.nd rfl (by first | exact Or.inl rfl | exact Or.inr rfl) (de_op op_mulA o_mul (sh (de_v (pv 1))) (sh (de_v (pv 2))))) (fun _ _ _ h => h)) dss_nil)) (passes_of rfl)) (dss_cons (ds_ret (de_v (pv 1))) dss_nil)))
/-! _law_sizes -/
def b__law_sizes : Sx := (sSeq (sSet 2 (eLst aN)) (sSeq (sFor (iRange1 (eCall m__law_some (aC (eV 0) (aC (eLst (aC (eC (.int 0)) (aC (eC (.int 1)) (aC (eC (.int 2)) (aC (eC (.int 2)) (aC (eC (.int 3)) (aC (eC (.int 3)) (aC (eC (.int 4)) (aC (eC (.int 5)) aN))))))))) aN)))) (bN 3) (sForget [3, 4] (sSeq (sSet 4 (eCall m__law_some (aC (eV 0) (aC (eLst (aC (eC (.int 1)) (aC (eC (.int 2)) (aC (eC (.int 2)) (aC (eC (.int 2)) (aC (eC (.int 3)) (aC (eC (.int 3)) (aC (eC (.int 4)) (aC (eC (.int 5)) (aC (eC (.int 6)) aN)))))))))) aN)))) (sSeq (sIf (eT (e2 dLe (e2 (dInt2 iMul) (eCallL m__law_number (aC (eV 2) aN)) (eV 4)) (eV 1))) (sSeq (sApp 2 (eV 4)) sNx) sNx) sNx)))) (sSeq (sRet (e1 dTuple (eV 2))) sNx)))
def m__law_sizes : List D → C → R D := dDef 5 b__law_sizes
theorem sc__law_sizes : FnScope ["cup", "most", "found", "turn", "size"] ["cup", "most"] (defScope (topS 39)) := ⟨rfl, rfl, rfl, by decide +kernel, rfl, by decide +kernel, by decide +kernel⟩
theorem ok__law_sizes (T : Tx K mg fa fd ec) : FnOk P w K mg base (L2.CX P w) 3 (fa 28) (fd 28) ["cup", "most"] (spD ⟨K, fa, ec, TT⟩ 2 m__law_sizes) := by
  have sc := sc__law_sizes
  refine ok_def T.F__law_sizes sc rfl [2] fun cdv A outer s H E hr => ?_
  exact (dss_cons (ds_own (i := 2) (m' := [2]) (ps_set (i := 2) sc.nd rfl (by first | exact Or.inl rfl | exact Or.inr rfl) (df_lst da_nil)) (fun _ _ _ h => h) (by simp) (by simp)) (dss_cons (ds_for (vs := [3]) (di_range1 (de_call (ok__law_some T) (hr.mono (by decide)) T.g__law_some T.F__law_some.kp T.b__law_some (takes_of rfl rfl rfl rfl) (da_cons (de_v (pv 0)) (da_cons (fr (df_lst (da_cons de_int (da_cons de_int (da_cons de_int (da_cons de_int (da_cons de_int (da_cons de_int (da_cons de_int (da_cons de_int da_nil)))))))))) da_nil))) T.n_range) (dg_n (pg_name (i := 3) sc.nd rfl (by first | exact Or.inl rfl | exact Or.inr rfl))) (dss_forget [3, 4] (dss_cons (ds_set (i := 4) (ps_set (i := 4) sc.nd rfl (by first | exact Or.inl rfl | exact Or.inr rfl) (de_call (ok__law_some T) (hr.mono (by decide)) T.g__law_some T.F__law_some.kp T.b__law_some (takes_of rfl rfl rfl rfl) (da_cons (de_v (pv 0)) (da_cons (fr (df_lst (da_cons de_int (da_cons de_int (da_cons de_int (da_cons de_int (da_cons de_int (da_cons de_int (da_cons de_int (da_cons de_int (da_cons de_int da_nil))))))))))) da_nil)))) (fun _ _ _ h => h)) (dss_cons (ds_if (dt_cmp op_le o_le (sh (de_op op_mulA o_mul (sh (de_callL (ok__law_number T) (hr.mono (by decide)) T.g__law_number T.F__law_number.kp T.b__law_number (takes_of rfl rfl rfl rfl) (dl_cons (ds_v (pv 2)) dl_nil))) (sh (de_v (pv 4))))) (sh (de_v (pv 1))) (nomark _)) (dss_cons (ds_app (i := 2) (ps_expr (pe_bm PySem.F.plainAttrs_list PySem.F.slot_list_append PySem.F.type_list_append mt_append (pv 2) (pa_cons (de_v (pv 4)) pa_nil))) (fun _ _ _ h => h)) dss_nil) dss_nil) dss_nil))) (passes_of rfl)) (dss_cons (ds_ret (de_t1 call_tupN o_tuple T.n_tuple boot_tuple (ds_v (pv 2)))) dss_nil)))
/-! _law_step -/
def b__law_step : Sx := (sSeq (sRet (eCall m__law_some (aC (eV 0) (aC (eLst (aC (eC (.int 1)) (aC (eC (.int 1)) (aC (eC (.int 1)) (aC (eC (.int 2)) (aC (eC (.int 3)) (aC (e1 dNeg (eC (.int 1))) (aC (e1 dNeg (eC (.int 2))) (aC (eC (.int 0)) (aC (eC (.int 4)) (aC (eC (.int 5)) (aC (eC (.int 6)) (aC (eC (.int 8)) (aC (eC (.int 10)) (aC (e1 dNeg (eC (.int 7))) (aC (eC (.int 12)) (aC (eC (.int 1000)) aN))))))))))))))))) aN)))) sNx)
def m__law_step : List D → C → R D := dDef 1 b__law_step
theorem sc__law_step : FnScope ["cup"] ["cup"] (defScope (topS 40)) := ⟨rfl, rfl, rfl, by decide +kernel, rfl, by decide +kernel, by decide +kernel⟩
theorem ok__law_step (T : Tx K mg fa fd ec) : FnOk P w K mg base (L2.CX P w) 3 (fa 29) (fd 29) ["cup"] (spD ⟨K, fa, ec, TT⟩ 1 m__law_step) := by
  have sc := sc__law_step
  refine ok_def T.F__law_step sc rfl [] fun cdv A outer s H E hr => ?_
  exact (dss_cons (ds_ret (de_call (ok__law_some T) (hr.mono (by decide)) T.g__law_some T.F__law_some.kp T.b__law_some (takes_of rfl rfl rfl rfl) (da_cons (de_v (pv 0)) (da_cons (fr (df_lst (da_cons de_int (da_cons de_int (da_cons de_int (da_cons de_int (da_cons de_int (da_cons (de_un un_neg o_neg (sh de_int)) (da_cons (de_un un_neg o_neg (sh de_int)) (da_cons de_int (da_cons de_int (da_cons de_int (da_cons de_int (da_cons de_int (da_cons de_int (da_cons (de_un un_neg o_neg (sh de_int)) (da_cons de_int (da_cons de_int da_nil)))))))))))))))))) da_nil)))) dss_nil)
/-! _law_pairs -/
def b__law_pairs : Sx := (sSeq (sSet 2 (eLst aN)) (sSeq (sFor (iSeq (eV 1)) (bN 3) (sForget [3, 4] (sSeq (sSet 4 (eCall m__law_step (aC (eV 0) aN))) (sSeq (sIf (DL.tAnd (eT (e2 dNe (eV 2) (eLst aN))) (eT (e2 dEq (eCall m__law_roll (aC (eV 0) (aC (eC (.int 3)) aN))) (eC (.int 0))))) (sSeq (sSet 4 (e2 (dInt2 iMul) (e2 dIx (e2 dIx (eV 2) (e1 dNeg (eC (.int 1)))) (eC (.int 0))) (e2 dIx (e2 dIx (eV 2) (e1 dNeg (eC (.int 1)))) (eC (.int 1))))) sNx) sNx) (sSeq (sApp 2 (eTup (aC (eV 3) (aC (eV 4) aN)))) sNx))))) (sSeq (sRet (e1 dTuple (eV 2))) sNx)))
def m__law_pairs : List D → C → R D := dDef 5 b__law_pairs
theorem sc__law_pairs : FnScope ["cup", "sizes", "found", "size", "step"] ["cup", "sizes"] (defScope (topS 41)) := ⟨rfl, rfl, rfl, by decide +kernel, rfl, by decide +kernel, by decide +kernel⟩
theorem ok__law_pairs (T : Tx K mg fa fd ec) : FnOk P w K mg base (L2.CX P w) 4 (fa 30) (fd 30) ["cup", "sizes"] (spD ⟨K, fa, ec, TT⟩ 2 m__law_pairs) := by
  have sc := sc__law_pairs
  refine ok_def T.F__law_pairs sc rfl [2] fun cdv A outer s H E hr => ?_
  exact (dss_cons (ds_own (i := 2) (m' := [2]) (ps_set (i := 2) sc.nd rfl (by first | exact Or.inl rfl | exact Or.inr rfl) (df_lst da_nil)) (fun _ _ _ h => h) (by simp) (by simp)) (dss_cons (ds_for (vs := [3]) (di_seq (de_v (pv 1))) (dg_n (pg_name (i := 3) sc.nd rfl (by first | exact Or.inl rfl | exact Or.inr rfl))) (dss_forget [3, 4] (dss_cons (ds_set (i := 4) (ps_set (i := 4) sc.nd rfl (by first | exact Or.inl rfl | exact Or.inr rfl) (de_call (ok__law_step T) (hr.mono (by decide)) T.g__law_step T.F__law_step.kp T.b__law_step (takes_of rfl rfl rfl rfl) (da_cons (de_v (pv 0)) da_nil))) (fun _ _ _ h => h)) (dss_cons (ds_if (dw_and (dt_cmp (op_neD hr.units) o_ne (ds_v (pv 2)) (sh (fr (df_lst da_nil))) (nomark _)) (dw_and1 (dt_cmp (op_eqD hr.units) o_eq (sh (de_call (ok__law_roll T) (hr.mono (by decide)) T.g__law_roll T.F__law_roll.kp T.b__law_roll (takes_of rfl rfl rfl rfl) (da_cons (de_v (pv 0)) (da_cons de_int da_nil)))) (sh de_int) (nomark _)))).pt (dss_cons (ds_set (i := 4) (ps_set (i := 4) sc.nd rfl (by first | exact Or.inl rfl | exact Or.inr rfl) (de_op op_mulA o_mul (sh (de_ix ix_seq o_ix (sh (de_ix ix_seq o_ix (ds_v (pv 2)) (sh (de_un un_neg o_neg (sh de_int))))) (sh de_int))) (sh (de_ix ix_seq o_ix (sh (de_ix ix_seq o_ix (ds_v (pv 2)) (sh (de_un un_neg o_neg (sh de_int))))) (sh de_int))))) (fun _ _ _ h => h)) dss_nil) dss_nil) (dss_cons (ds_app (i := 2) (ps_expr (pe_bm PySem.F.plainAttrs_list PySem.F.slot_list_append PySem.F.type_list_append mt_append (pv 2) (pa_cons (de_tup (da_cons (de_v (pv 3)) (da_cons (de_v (pv 4)) da_nil))) pa_nil))) (fun _ _ _ h => h)) dss_nil)))) (passes_of rfl)) (dss_cons (ds_ret (de_t1 call_tupN o_tuple T.n_tuple boot_tuple (ds_v (pv 2)))) dss_nil)))
/-! _law_walk -/
def b__law_walk : Sx := (sSeq (sRet (eTup (aC (eCall m__law_some (aC (eV 0) (aC (eLst (aC (eC (.int 0)) (aC (eC (.int 0)) (aC (eC (.int 0)) (aC (eC (.int 1)) (aC (eC (.int 5)) (aC (e1 dNeg (eC (.int 3))) (aC (eC (.int 100)) aN)))))))) aN))) (aC (eCall m__law_pairs (aC (eV 0) (aC (eCall m__law_sizes (aC (eV 0) (aC (eV 1) aN))) aN))) aN)))) sNx)
def m__law_walk : List D → C → R D := dDef 2 b__law_walk
theorem sc__law_walk : FnScope ["cup", "most"] ["cup", "most"] (defScope (topS 42)) := ⟨rfl, rfl, rfl, by decide +kernel, rfl, by decide +kernel, by decide +kernel⟩
theorem ok__law_walk (T : Tx K mg fa fd ec) : FnOk P w K mg base (L2.CX P w) 5 (fa 31) (fd 31) ["cup", "most"] (spD ⟨K, fa, ec, TT⟩ 2 m__law_walk) := by
  have sc := sc__law_walk
  refine ok_def T.F__law_walk sc rfl [] fun cdv A outer s H E hr => ?_
  exact (dss_cons (ds_ret (de_tup (da_cons (de_call (ok__law_some T) (hr.mono (by decide)) T.g__law_some T.F__law_some.kp T.b__law_some (takes_of rfl rfl rfl rfl) (da_cons (de_v (pv 0)) (da_cons (fr (df_lst (da_cons de_int (da_cons de_int (da_cons de_int (da_cons de_int (da_cons de_int (da_cons (de_un un_neg o_neg (sh de_int)) (da_cons de_int da_nil))))))))) da_nil))) (da_cons (de_call (ok__law_pairs T) (hr.mono (by decide)) T.g__law_pairs T.F__law_pairs.kp T.b__law_pairs (takes_of rfl rfl rfl rfl) (da_cons (de_v (pv 0)) (da_cons (de_call (ok__law_sizes T) (hr.mono (by decide)) T.g__law_sizes T.F__law_sizes.kp T.b__law_sizes (takes_of rfl rfl rfl rfl) (da_cons (de_v (pv 0)) (da_cons (de_v (pv 1)) da_nil))) da_nil))) da_nil)))) dss_nil)
/-! _law_digits -/
def b__law_digits : Sx := (sSeq (sSet 2 (eLst aN)) (sSeq (sFor (iSeq (eV 0)) (bN 3) (sForget [3] (sSeq (sApp 2 (e2 (dInt2 iMod) (e1 dToInt (eV 1)) (eV 3))) (sSeq (sSet 1 (e2 (dInt2 iDiv) (eV 1) (eV 3))) sNx)))) (sSeq (sRet (e1 dTuple (eV 2))) sNx)))
def m__law_digits : List D → C → R D := dDef 4 b__law_digits
theorem sc__law_digits : FnScope ["sizes", "place", "found", "size"] ["sizes", "place"] (defScope (topS 43)) := ⟨rfl, rfl, rfl, by decide +kernel, rfl, by decide +kernel, by decide +kernel⟩
theorem ok__law_digits (T : Tx K mg fa fd ec) : FnOk P w K mg base (L2.CX P w) 1 (fa 32) (fd 32) ["sizes", "place"] (spD ⟨K, fa, ec, TT⟩ 2 m__law_digits) := by
  have sc := sc__law_digits
  refine ok_def T.F__law_digits sc rfl [2] fun cdv A outer s H E hr => ?_
  exact (dss_cons (ds_own (i := 2) (m' := [2]) (ps_set (i := 2) sc.nd rfl (by first | exact Or.inl rfl | exact Or.inr rfl) (df_lst da_nil)) (fun _ _ _ h => h) (by simp) (by simp)) (dss_cons (ds_for (vs := [3]) (di_seq (de_v (pv 0))) (dg_n (pg_name (i := 3) sc.nd rfl (by first | exact Or.inl rfl | exact Or.inr rfl))) (dss_forget [3] (dss_cons (ds_app (i := 2) (ps_expr (pe_bm PySem.F.plainAttrs_list PySem.F.slot_list_append PySem.F.type_list_append mt_append (pv 2) (pa_cons (de_op op_mod o_mod (sh (de_t1 call_int1 o_toInt T.n_int boot_int (sh (de_v (pv 1))))) (sh (de_v (pv 3)))) pa_nil))) (fun _ _ _ h => h)) (dss_cons (ds_set (i := 1) (ps_set (i := 1) sc.nd rfl (by first | exact Or.inl rfl | exact Or.inr rfl) (de_op op_fdivW o_div (sh (de_v (pv 1))) (sh (de_v (pv 3))))) (fun _ _ _ h => h)) dss_nil))) (passes_of rfl)) (dss_cons (ds_ret (de_t1 call_tupN o_tuple T.n_tuple boot_tuple (ds_v (pv 2)))) dss_nil)))
/-! _law_list -/
def b__law_list : Sx := (sSeq (sPar 1 2 (eLc (iSeq (e2 dIx (eV 0) (eC (.int 1)))) [3, 4] (bT (bsC (bN 3) (bsC (bN 4) bsN))) DL.tYes (eV 3)) (eLst aN)) (sSeq (sFor (iRange1 (eCall m__law_number (aC (eV 1) aN))) (bN 5) (sForget [5] (sSeq (sApp 2 (e2 dCat (e2 dIx (eV 0) (eC (.int 0))) (e1 dSum (eLc (iZip (eCall m__law_digits (aC (eV 1) (aC (eV 5) aN))) (e2 dIx (eV 0) (eC (.int 1)))) [6, 7] (bT (bsC (bN 6) (bsC (bN 7) bsN))) DL.tYes (e2 (dInt2 iMul) (eV 6) (e2 dIx (eV 7) (eC (.int 1)))))))) sNx))) (sSeq (sRet (e1 dTuple (eV 2))) sNx)))
def m__law_list : List D → C → R D := dDef 8 b__law_list
theorem sc__law_list : FnScope ["walk", "sizes", "found", "size", "step", "place", "digit", "pair"] ["walk"] (defScope (topS 44)) := ⟨rfl, rfl, rfl, by decide +kernel, rfl, by decide +kernel, by decide +kernel⟩
theorem ok__law_list (T : Tx K mg fa fd ec) : FnOk P w K mg base (L2.CX P w) 2 (fa 33) (fd 33) ["walk"] (spD ⟨K, fa, ec, TT⟩ 1 m__law_list) := by
  have sc := sc__law_list
  refine ok_def T.F__law_list sc rfl [2] fun cdv A outer s H E hr => ?_
  exact (dss_cons (ds_parDF (m' := [2]) (ps_par rfl sc.nd rfl rfl (by decide) rfl rfl (pa_cons (fr (df_lc (own := [("size", 3), ("step", 4)]) (di_seqS (sh (de_ix ix_seq o_ix (sh (de_v (pv 0))) (sh de_int)))) (blkOk_by (by kernel_rfl)) (fun _ _ _ _ _ => (dg_t (fun _ _ _ h => bsC_len (fun _ _ _ h => bsC_len (fun _ _ _ h => bsN_len h) h) h) (pg_seq rfl (dgs_c (pgs_cons (dg_n (pg_name (i := 3) sc.nd rfl (by first | exact Or.inl rfl | exact Or.inr rfl))) (dgs_c (pgs_cons (dg_n (pg_name (i := 4) sc.nd rfl (by first | exact Or.inl rfl | exact Or.inr rfl))) dgs_n))))))) (fun _ _ _ _ _ => dts_nil) (fun _ _ _ _ _ => (de_v (pv 3))) sc.nd)) (pa_cons (df_lst da_nil) pa_nil)) (by rfl)) (fun _ _ _ h => h) (fun _ _ _ h => h) (by simp) (by simp)) (dss_cons (ds_for (vs := [5]) (di_range1 (de_call (ok__law_number T) (hr.mono (by decide)) T.g__law_number T.F__law_number.kp T.b__law_number (takes_of rfl rfl rfl rfl) (da_cons (de_v (pv 1)) da_nil)) T.n_range) (dg_n (pg_name (i := 5) sc.nd rfl (by first | exact Or.inl rfl | exact Or.inr rfl))) (dss_forget [5] (dss_cons (ds_app (i := 2) (ps_expr (pe_bm PySem.F.plainAttrs_list PySem.F.slot_list_append PySem.F.type_list_append mt_append (pv 2) (pa_cons (de_op op_catAll o_cat (sh (de_ix ix_seq o_ix (sh (de_v (pv 0))) (sh de_int))) (sh (de_b1 (cr_sum rfl) o_sum T.n_sum (by decide +kernel) (sh (fr (df_lc (own := [("digit", 6), ("pair", 7)]) (ic (di_zip (de_call (ok__law_digits T) (hr.mono (by decide)) T.g__law_digits T.F__law_digits.kp T.b__law_digits (takes_of rfl rfl rfl rfl) (da_cons (de_v (pv 1)) (da_cons (de_v (pv 5)) da_nil))) (de_ix ix_seq o_ix (sh (de_v (pv 0))) (sh de_int)) T.n_zip)) (blkOk_by (by kernel_rfl)) (fun _ _ _ _ _ => (dg_t (fun _ _ _ h => bsC_len (fun _ _ _ h => bsC_len (fun _ _ _ h => bsN_len h) h) h) (pg_seq rfl (dgs_c (pgs_cons (dg_n (pg_name (i := 6) sc.nd rfl (by first | exact Or.inl rfl | exact Or.inr rfl))) (dgs_c (pgs_cons (dg_n (pg_name (i := 7) sc.nd rfl (by first | exact Or.inl rfl | exact Or.inr rfl))) dgs_n))))))) (fun _ _ _ _ _ => dts_nil) (fun _ _ _ _ _ => (de_op op_mulA o_mul (sh (de_v (pv 6))) (sh (de_ix ix_seq o_ix (sh (de_v (pv 7))) (sh de_int))))) sc.nd)))))) pa_nil))) (fun _ _ _ h => h)) dss_nil)) (passes_of rfl)) (dss_cons (ds_ret (de_t1 call_tupN o_tuple T.n_tuple boot_tuple (ds_v (pv 2)))) dss_nil)))
/-! _law_first -/
def b__law_first : Sx := (sSeq (sFor (iRange1 (e1 dLenA (eV 0))) (bN 1) (sForget [1] (sSeq (sIf (eT (e2 dInA (e2 dIx (eV 0) (eV 1)) (eSl dSl (eV 0) (oS (e2 dCat (eV 1) (eC (.int 1)))) oN))) (sSeq (sRet (eTup (aC (eV 1) (aC (e2 dCat (e2 dCat (eV 1) (eC (.int 1))) (eMth dIndex (eSl dSl (eV 0) (oS (e2 dCat (eV 1) (eC (.int 1)))) oN) (e2 dIx (eV 0) (eV 1)))) aN)))) sNx) sNx) sNx))) (sSeq (sRet (eC .non)) sNx))
def m__law_first : List D → C → R D := dDef 2 b__law_first
theorem sc__law_first : FnScope ["numbers", "place"] ["numbers"] (defScope (topS 45)) := ⟨rfl, rfl, rfl, by decide +kernel, rfl, by decide +kernel, by decide +kernel⟩
theorem ok__law_first (T : Tx K mg fa fd ec) : FnOk P w K mg base (L2.CX P w) 1 (fa 34) (fd 34) ["numbers"] (spD ⟨K, fa, ec, TT⟩ 1 m__law_first) := by
  have sc := sc__law_first
  refine ok_def T.F__law_first sc rfl [] fun cdv A outer s H E hr => ?_
  exact (dss_cons (ds_for (vs := [1]) (di_range1 (de_b1 call_lenA o_lenA T.n_len PySem.boot_len (sh (de_v (pv 0)))) T.n_range) (dg_n (pg_name (i := 1) sc.nd rfl (by first | exact Or.inl rfl | exact Or.inr rfl))) (dss_forget [1] (dss_cons (ds_if (dt_cmp (op_inQ hr.units) o_inA (sh (de_ix ix_seq o_ix (sh (de_v (pv 0))) (sh (de_v (pv 1))))) (sh (de_sl sl_all o_sl (sh (de_v (pv 0))) (do_s (de_op op_catAll o_cat (sh (de_v (pv 1))) (sh de_int))) do_n)) rfl) (dss_cons (ds_ret (de_tup (da_cons (de_v (pv 1)) (da_cons (de_op op_catAll o_cat (sh (de_op op_catAll o_cat (sh (de_v (pv 1))) (sh de_int))) (sh (de_mth PySem.F.slot_list_index PySem.F.type_list_index mt_lindex PySem.F.slot_tuple_index PySem.F.type_tuple_index mt_tindex o_index (sh (de_sl sl_all o_sl (sh (de_v (pv 0))) (do_s (de_op op_catAll o_cat (sh (de_v (pv 1))) (sh de_int))) do_n)) (sh (de_ix ix_seq o_ix (sh (de_v (pv 0))) (sh (de_v (pv 1)))))))) da_nil)))) dss_nil) dss_nil) dss_nil)) (passes_of rfl)) (dss_cons (ds_ret de_non) dss_nil))
/-! _law_is_row -/
def b__law_is_row : Sx := (sSeq (sIf (DL.tOr (eT (e2 dNe (e1 dLenA (eV 1)) (e1 dLenA (e2 dIx (eV 0) (eC (.int 1)))))) (eT (e2 dEq (eLc (iSeq (eV 1)) [2] (bN 2) (eT (e2 dNe (eV 2) (eC (.int 0)))) (eV 2)) (eLst aN)))) (sSeq (sRet (eC (.bl false))) sNx) sNx) (sSeq (sSet 3 (eLc (iZip (eV 1) (e2 dIx (eV 0) (eC (.int 1)))) [2, 4] (bT (bsC (bN 2) (bsC (bN 4) bsN))) (DL.tOr (eT (e2 dLe (eV 2) (e1 dNeg (e2 dIx (eV 4) (eC (.int 0)))))) (eT (e2 dGe (eV 2) (e2 dIx (eV 4) (eC (.int 0)))))) (eV 2))) (sSeq (sRet (eAnd (e2 dEq (eV 3) (eLst aN)) (e2 dEq (e1 dSum (eLc (iZip (eV 1) (e2 dIx (eV 0) (eC (.int 1)))) [2, 4] (bT (bsC (bN 2) (bsC (bN 4) bsN))) DL.tYes (e2 (dInt2 iMul) (eV 2) (e2 dIx (eV 4) (eC (.int 1)))))) (eC (.int 0))))) sNx)))
def m__law_is_row : List D → C → R D := dDef 5 b__law_is_row
theorem sc__law_is_row : FnScope ["walk", "row", "own", "far", "pair"] ["walk", "row"] (defScope (topS 46)) := ⟨rfl, rfl, rfl, by decide +kernel, rfl, by decide +kernel, by decide +kernel⟩
theorem ok__law_is_row (T : Tx K mg fa fd ec) : FnOk P w K mg base (L2.CX P w) 1 (fa 35) (fd 35) ["walk", "row"] (spD ⟨K, fa, ec, TT⟩ 2 m__law_is_row) := by
  have sc := sc__law_is_row
  refine ok_def T.F__law_is_row sc rfl [] fun cdv A outer s H E hr => ?_
  exact (dss_cons (ds_if (dw_or (dt_cmp (op_neD hr.units) o_ne (sh (de_b1 call_lenA o_lenA T.n_len PySem.boot_len (sh (de_v (pv 1))))) (sh (de_b1 call_lenA o_lenA T.n_len PySem.boot_len (sh (de_ix ix_seq o_ix (sh (de_v (pv 0))) (sh de_int))))) (nomark _)) (dw_or1 (dt_cmp (op_eqD hr.units) o_eq (sh (fr (df_lc (own := [("own", 2)]) (di_seqS (sh (de_v (pv 1)))) (blkOk_by (by kernel_rfl)) (fun _ _ _ _ _ => (dg_n (pg_name (i := 2) sc.nd rfl (by first | exact Or.inl rfl | exact Or.inr rfl)))) (fun _ _ _ _ _ => (dts_one (dt_cmp (op_neD hr.units) o_ne (sh (de_v (pv 2))) (sh de_int) (nomark _)))) (fun _ _ _ _ _ => (de_v (pv 2))) sc.nd))) (sh (fr (df_lst da_nil))) (nomark _)))).pt (dss_cons (ds_ret de_bl) dss_nil) dss_nil) (dss_cons (ds_set (i := 3) (ps_setLc (i := 3) (own := [("own", 2), ("pair", 4)]) rfl sc.nd rfl rfl (sw_true rfl rfl rfl (by decide +kernel)) (ic (di_zip (de_v (pv 1)) (de_ix ix_seq o_ix (sh (de_v (pv 0))) (sh de_int)) T.n_zip)) (blkOk_by (by kernel_rfl)) (fun _ _ _ _ _ => (dg_t (fun _ _ _ h => bsC_len (fun _ _ _ h => bsC_len (fun _ _ _ h => bsN_len h) h) h) (pg_seq rfl (dgs_c (pgs_cons (dg_n (pg_name (i := 2) sc.nd rfl (by first | exact Or.inl rfl | exact Or.inr rfl))) (dgs_c (pgs_cons (dg_n (pg_name (i := 4) sc.nd rfl (by first | exact Or.inl rfl | exact Or.inr rfl))) dgs_n))))))) (fun _ _ _ _ _ => (dts_one (dw_or (dt_cmp op_le o_le (sh (de_v (pv 2))) (sh (de_un un_neg o_neg (sh (de_ix ix_seq o_ix (sh (de_v (pv 4))) (sh de_int))))) (nomark _)) (dw_or1 (dt_cmp op_ge o_ge (sh (de_v (pv 2))) (sh (de_ix ix_seq o_ix (sh (de_v (pv 4))) (sh de_int))) (nomark _)))).pt)) (fun _ _ _ _ _ => (de_v (pv 2)))) (fun _ _ _ h => lc_run (tF_of h))) (dss_cons (ds_ret (de_and (de_cmp (op_eqD hr.units) o_eq (sh (de_v (pv 3))) (sh (fr (df_lst da_nil))) (nomark _)) (de_and1 (de_cmp (op_eqD hr.units) o_eq (sh (de_b1 (cr_sum rfl) o_sum T.n_sum (by decide +kernel) (sh (fr (df_lc (own := [("own", 2), ("pair", 4)]) (ic (di_zip (de_v (pv 1)) (de_ix ix_seq o_ix (sh (de_v (pv 0))) (sh de_int)) T.n_zip)) (blkOk_by (by kernel_rfl)) (fun _ _ _ _ _ => (dg_t (fun _ _ _ h => bsC_len (fun _ _ _ h => bsC_len (fun _ _ _ h => bsN_len h) h) h) (pg_seq rfl (dgs_c (pgs_cons (dg_n (pg_name (i := 2) sc.nd rfl (by first | exact Or.inl rfl | exact Or.inr rfl))) (dgs_c (pgs_cons (dg_n (pg_name (i := 4) sc.nd rfl (by first | exact Or.inl rfl | exact Or.inr rfl))) dgs_n))))))) (fun _ _ _ _ _ => dts_nil) (fun _ _ _ _ _ => (de_op op_mulA o_mul (sh (de_v (pv 2))) (sh (de_ix ix_seq o_ix (sh (de_v (pv 4))) (sh de_int))))) sc.nd))))) (sh de_int) (nomark _))))) dss_nil)))
/-! _law_rows_right -/
def b__law_rows_right : Sx := (sSeq (sSet 3 (eCall m_difference_row (aC (eV 1) aN))) (sSeq (sIf (eT (e2 dNe (e2 dIs (eV 3) (eC .non)) (e2 dIs (eV 2) (eC .non)))) (sSeq (sRet (eC (.bl false))) sNx) sNx) (sSeq (sSet 4 (eLc (iSeq (e2 dIx (eV 1) (eC (.int 1)))) [5, 6] (bT (bsC (bN 5) (bsC (bN 6) bsN))) DL.tYes (eV 5))) (sSeq (sIf (eT (e2 dIsNot (eV 3) (eC .non))) (sSeq (sIf (DL.tOr (DL.tNot (eT (e1 (dIsi "tuple") (eV 3)))) (DL.tOr (eT (e2 dNe (eLc (iSeq (eV 3)) [7] (bN 7) (eT (e2 dNe (eCall m__law_sort (aC (eV 7) aN)) (eC (.int 2)))) (eV 7)) (eLst aN))) (DL.tNot (eT (eCall m__law_is_row (aC (eV 1) (aC (eV 3) aN))))))) (sSeq (sRet (eC (.bl false))) sNx) sNx) (sSeq (sSet 8 (e1 dTuple (eLc (iSeq (eV 3)) [7] (bN 7) DL.tYes (e1 dNeg (eV 7))))) (sSeq (sSet 9 (e1 dTuple (eLc (iZip (eCall m__law_digits (aC (eV 4) (aC (e2 dIx (eV 2) (eC (.int 0))) aN))) (eCall m__law_digits (aC (eV 4) (aC (e2 dIx (eV 2) (eC (.int 1))) aN)))) [10, 11] (bT (bsC (bN 10) (bsC (bN 11) bsN))) DL.tYes (e2 dSub (eV 11) (eV 10))))) (sSeq (sIf (DL.tNot (eT (eCall m__law_like (aC (eLc (iSeq (eTup (aC (eV 3) (aC (eV 8) (aC (eV 9) (aC (e1 dList (eV 3)) (aC (e2 dCat (eV 3) (eTup (aC (eC (.int 0)) aN))) (aC (eSl dSl (eV 3) (oS (eC (.int 1))) oN) aN)))))))) [7] (bN 7) DL.tYes (eCall m_is_difference_row (aC (eV 1) (aC (eV 7) aN)))) (aC (eLst (aC (eC (.bl true)) (aC (eC (.bl true)) (aC (eC (.bl true)) (aC (eC (.bl false)) (aC (eC (.bl false)) (aC (eC (.bl false)) aN))))))) aN))))) (sSeq (sRet (eC (.bl false))) sNx) sNx) sNx)))) sNx) (sSeq (sFor (iRange1 (eC (.int 6))) (bN 12) (sForget [12, 13] (sSeq (sSet 13 (e1 dTuple (eLc (iSeq (eV 4)) [5] (bN 5) DL.tYes (e2 dSub (eCall m__law_roll (aC (eV 0) (aC (e2 dCat (e2 (dInt2 iMul) (eC (.int 2)) (eV 5)) (eC (.int 1))) aN))) (eV 5))))) (sSeq (sIf (DL.tNot (eT (eCall m__law_like (aC (eCall m_is_difference_row (aC (eV 1) (aC (eV 13) aN))) (aC (eCall m__law_is_row (aC (eV 1) (aC (eV 13) aN))) aN))))) (sSeq (sRet (eC (.bl false))) sNx) sNx) sNx)))) (sSeq (sRet (eC (.bl true))) sNx))))))
def m__law_rows_right : List D → C → R D := dDef 14 b__law_rows_right
theorem sc__law_rows_right : FnScope ["cup", "walk", "first", "row", "sizes", "size", "step", "own", "back", "told", "one", "two", "turn", "near"] ["cup", "walk", "first"] (defScope (topS 47)) := ⟨rfl, rfl, rfl, by decide +kernel, rfl, by decide +kernel, by decide +kernel⟩
theorem ok__law_rows_right (T : Tx K mg fa fd ec) : FnOk P w K mg base (L2.CX P w) 33 (fa 36) (fd 36) ["cup", "walk", "first"] (spD ⟨K, fa, ec, TT⟩ 3 m__law_rows_right) := by
  have sc := sc__law_rows_right
  refine ok_def T.F__law_rows_right sc rfl [] fun cdv A outer s H E hr => ?_
  exact (dss_cons (ds_set (i := 3) (ps_set (i := 3) sc.nd rfl (by first | exact Or.inl rfl | exact Or.inr rfl) (de_call (ok_difference_row T) (hr.mono (by decide)) T.g_difference_row T.F_difference_row.kp T.b_difference_row (takes_of rfl rfl rfl rfl) (da_cons (de_v (pv 1)) da_nil))) (fun _ _ _ h => h)) (dss_cons (ds_if (dt_cmp (op_neD hr.units) o_ne (sh (de_cmp op_isN o_is (sh (de_v (pv 3))) (sh de_non) (nomark _))) (sh (de_cmp op_isN o_is (sh (de_v (pv 2))) (sh de_non) (nomark _))) (nomark _)) (dss_cons (ds_ret de_bl) dss_nil) dss_nil) (dss_cons (ds_set (i := 4) (ps_setLc (i := 4) (own := [("size", 5), ("step", 6)]) rfl sc.nd rfl rfl (sw_true rfl rfl rfl (by decide +kernel)) (di_seqS (sh (de_ix ix_seq o_ix (sh (de_v (pv 1))) (sh de_int)))) (blkOk_by (by kernel_rfl)) (fun _ _ _ _ _ => (dg_t (fun _ _ _ h => bsC_len (fun _ _ _ h => bsC_len (fun _ _ _ h => bsN_len h) h) h) (pg_seq rfl (dgs_c (pgs_cons (dg_n (pg_name (i := 5) sc.nd rfl (by first | exact Or.inl rfl | exact Or.inr rfl))) (dgs_c (pgs_cons (dg_n (pg_name (i := 6) sc.nd rfl (by first | exact Or.inl rfl | exact Or.inr rfl))) dgs_n))))))) (fun _ _ _ _ _ => dts_nil) (fun _ _ _ _ _ => (de_v (pv 5)))) (fun _ _ _ h => lc_run (tF_of h))) (dss_cons (ds_if (dt_cmp op_notN o_isNot (sh (de_v (pv 3))) (sh de_non) (nomark _)) (dss_cons (ds_if (dw_or (dt_not (dt_val (de_isi T.n_isinstance T.n_tuple boot_tuple (sh (de_v (pv 3)))))) (dw_or (dt_cmp (op_neD hr.units) o_ne (sh (fr (df_lc (own := [("own", 7)]) (di_seqS (sh (de_v (pv 3)))) (blkOk_by (by kernel_rfl)) (fun _ _ _ _ _ => (dg_n (pg_name (i := 7) sc.nd rfl (by first | exact Or.inl rfl | exact Or.inr rfl)))) (fun _ _ _ _ _ => (dts_one (dt_cmp (op_neD hr.units) o_ne (sh (de_call (ok__law_sort T) (hr.mono (by decide)) T.g__law_sort T.F__law_sort.kp T.b__law_sort takes0 (da_cons (de_v (pv 7)) da_nil))) (sh de_int) (nomark _)))) (fun _ _ _ _ _ => (de_v (pv 7))) sc.nd))) (sh (fr (df_lst da_nil))) (nomark _)) (dw_or1 (dt_not (dt_val (de_call (ok__law_is_row T) (hr.mono (by decide)) T.g__law_is_row T.F__law_is_row.kp T.b__law_is_row (takes_of rfl rfl rfl rfl) (da_cons (de_v (pv 1)) (da_cons (de_v (pv 3)) da_nil)))))))).pt (dss_cons (ds_ret de_bl) dss_nil) dss_nil) (dss_cons (ds_set (i := 8) (ps_set (i := 8) sc.nd rfl (by first | exact Or.inl rfl | exact Or.inr rfl) (de_t1 call_tupN o_tuple T.n_tuple boot_tuple (sh (fr (df_lc (own := [("own", 7)]) (di_seqS (sh (de_v (pv 3)))) (blkOk_by (by kernel_rfl)) (fun _ _ _ _ _ => (dg_n (pg_name (i := 7) sc.nd rfl (by first | exact Or.inl rfl | exact Or.inr rfl)))) (fun _ _ _ _ _ => dts_nil) (fun _ _ _ _ _ => (de_un un_neg o_neg (sh (de_v (pv 7))))) sc.nd))))) (fun _ _ _ h => h)) (dss_cons (ds_set (i := 9) (ps_set (i := 9) sc.nd rfl (by first | exact Or.inl rfl | exact Or.inr rfl) (de_t1 call_tupN o_tuple T.n_tuple boot_tuple (sh (fr (df_lc (own := [("one", 10), ("two", 11)]) (ic (di_zip (de_call (ok__law_digits T) (hr.mono (by decide)) T.g__law_digits T.F__law_digits.kp T.b__law_digits (takes_of rfl rfl rfl rfl) (da_cons (de_v (pv 4)) (da_cons (de_ix ix_seq o_ix (sh (de_v (pv 2))) (sh de_int)) da_nil))) (de_call (ok__law_digits T) (hr.mono (by decide)) T.g__law_digits T.F__law_digits.kp T.b__law_digits (takes_of rfl rfl rfl rfl) (da_cons (de_v (pv 4)) (da_cons (de_ix ix_seq o_ix (sh (de_v (pv 2))) (sh de_int)) da_nil))) T.n_zip)) (blkOk_by (by kernel_rfl)) (fun _ _ _ _ _ => (dg_t (fun _ _ _ h => bsC_len (fun _ _ _ h => bsC_len (fun _ _ _ h => bsN_len h) h) h) (pg_seq rfl (dgs_c (pgs_cons (dg_n (pg_name (i := 10) sc.nd rfl (by first | exact Or.inl rfl | exact Or.inr rfl))) (dgs_c (pgs_cons (dg_n (pg_name (i := 11) sc.nd rfl (by first | exact Or.inl rfl | exact Or.inr rfl))) dgs_n))))))) (fun _ _ _ _ _ => dts_nil) (fun _ _ _ _ _ => (de_op op_sub o_sub (sh (de_v (pv 11))) (sh (de_v (pv 10))))) sc.nd))))) (fun _ _ _ h => h)) (dss_cons (ds_if (dt_not (dt_val (de_call (ok__law_like T) (hr.mono (by decide)) T.g__law_like T.F__law_like.kp T.b__law_like (takes_of rfl rfl rfl rfl) (da_cons (fr (df_lc (own := [("own", 7)]) (di_seqS (sh (de_tup (da_cons (de_v (pv 3)) (da_cons (de_v (pv 8)) (da_cons (de_v (pv 9)) (da_cons (de_t1 call_list_of o_list T.n_list boot_list (sh (de_v (pv 3)))) (da_cons (de_op op_catAll o_cat (sh (de_v (pv 3))) (sh (de_tup (da_cons de_int da_nil)))) (da_cons (de_sl sl_all o_sl (sh (de_v (pv 3))) (do_s de_int) do_n) da_nil))))))))) (blkOk_by (by kernel_rfl)) (fun _ _ _ _ _ => (dg_n (pg_name (i := 7) sc.nd rfl (by first | exact Or.inl rfl | exact Or.inr rfl)))) (fun _ _ _ _ _ => dts_nil) (fun _ _ _ _ _ => (de_call (ok_is_difference_row T) (hr.mono (by decide)) T.g_is_difference_row T.F_is_difference_row.kp T.b_is_difference_row takes0 (da_cons (de_v (pv 1)) (da_cons (de_v (pv 7)) da_nil)))) sc.nd)) (da_cons (fr (df_lst (da_cons de_bl (da_cons de_bl (da_cons de_bl (da_cons de_bl (da_cons de_bl (da_cons de_bl da_nil)))))))) da_nil))))) (dss_cons (ds_ret de_bl) dss_nil) dss_nil) dss_nil)))) dss_nil) (dss_cons (ds_for (vs := [12]) (di_range1 de_int T.n_range) (dg_n (pg_name (i := 12) sc.nd rfl (by first | exact Or.inl rfl | exact Or.inr rfl))) (dss_forget [12, 13] (dss_cons (ds_set (i := 13) (ps_set (i := 13) sc.nd rfl (by first | exact Or.inl rfl | exact Or.inr rfl) (de_t1 call_tupN o_tuple T.n_tuple boot_tuple (sh (fr (df_lc (own := [("size", 5)]) (di_seqS (sh (de_v (pv 4)))) (blkOk_by (by kernel_rfl)) (fun _ _ _ _ _ => (dg_n (pg_name (i := 5) sc.nd rfl (by first | exact Or.inl rfl | exact Or.inr rfl)))) (fun _ _ _ _ _ => dts_nil) (fun _ _ _ _ _ => (de_op op_sub o_sub (sh (de_call (ok__law_roll T) (hr.mono (by decide)) T.g__law_roll T.F__law_roll.kp T.b__law_roll takes0 (da_cons (de_v (pv 0)) (da_cons (de_op op_catAll o_cat (sh (de_op op_mulA o_mul (sh de_int) (sh (de_v (pv 5))))) (sh de_int)) da_nil)))) (sh (de_v (pv 5))))) sc.nd))))) (fun _ _ _ h => h)) (dss_cons (ds_if (dt_not (dt_val (de_call (ok__law_like T) (hr.mono (by decide)) T.g__law_like T.F__law_like.kp T.b__law_like (takes_of rfl rfl rfl rfl) (da_cons (de_call (ok_is_difference_row T) (hr.mono (by decide)) T.g_is_difference_row T.F_is_difference_row.kp T.b_is_difference_row (takes_of rfl rfl rfl rfl) (da_cons (de_v (pv 1)) (da_cons (de_v (pv 13)) da_nil))) (da_cons (de_call (ok__law_is_row T) (hr.mono (by decide)) T.g__law_is_row T.F__law_is_row.kp T.b__law_is_row (takes_of rfl rfl rfl rfl) (da_cons (de_v (pv 1)) (da_cons (de_v (pv 13)) da_nil))) da_nil))))) (dss_cons (ds_ret de_bl) dss_nil) dss_nil) dss_nil))) (passes_of rfl)) (dss_cons (ds_ret de_bl) dss_nil))))))
/-! _law_right -/
def b__law_right : Sx := (sSeq (sSet 2 (eCall m__law_list (aC (eV 1) aN))) (sSeq (sPar 3 4 (eCall m__law_first (aC (eV 2) aN)) (e1 dSortSet (eV 2))) (sSeq (sSet 5 (e1 dMax (eLc (iSeq (eV 4)) [6] (bN 6) DL.tYes (eMth dCount (eV 2) (eV 6))))) (sSeq (sSet 7 (eLc (iSeq (eV 4)) [6] (bN 6) (eT (e2 dEq (eMth dCount (eV 2) (eV 6)) (eV 5))) (eV 6))) (sSeq (sSet 8 (eLst (aC (eCall m_meets_itself (aC (eV 1) aN)) (aC (eCall m_first_places (aC (eV 1) aN)) (aC (eCall m_count_unlike (aC (eV 1) aN)) (aC (eCall m_most_told (aC (eV 1) aN)) aN)))))) (sSeq (sIf (DL.tNot (eT (eCall m__law_like (aC (eV 8) (aC (eLst (aC (e2 dIsNot (eV 3) (eC .non)) (aC (eV 3) (aC (e1 dLenA (eV 4)) (aC (eTup (aC (eV 5) (aC (e2 dIx (eV 7) (eC (.int 0))) aN))) aN))))) aN))))) (sSeq (sRet (eC (.bl false))) sNx) sNx) (sSeq (sFor (iSeq (eTup (aC (e2 dIx (eV 4) (eC (.int 0))) (aC (eCall m__law_some (aC (eV 0) (aC (eV 4) aN))) (aC (e2 dIx (eV 7) (eC (.int 0))) (aC (e2 dCat (e2 dIx (eV 4) (e1 dNeg (eC (.int 1)))) (eC (.int 1))) (aC (e2 dCat (e2 dIx (eV 2) (eCall m__law_roll (aC (eV 0) (aC (e1 dLenA (eV 2)) aN)))) (eC (.int 1))) aN))))))) (bN 6) (sSeq (sIf (DL.tNot (eT (eCall m__law_like (aC (eCall m_places_of (aC (eV 1) (aC (eV 6) aN))) (aC (e1 dTuple (eLc (iRange1 (e1 dLenA (eV 2))) [9] (bN 9) (eT (e2 dEq (e2 dIx (eV 2) (eV 9)) (eV 6))) (eV 9))) aN))))) (sSeq (sRet (eC (.bl false))) sNx) sNx) sNx)) (sSeq (sFor (iRange1 (eC (.int 6))) (bN 10) (sForget [10, 11, 12, 13] (sSeq (sPar 11 12 (eCall m__law_roll (aC (eV 0) (aC (e2 dCat (e1 dLenA (eV 2)) (eC (.int 1))) aN))) (eCall m__law_roll (aC (eV 0) (aC (e2 dCat (e1 dLenA (eV 2)) (eC (.int 1))) aN)))) (sSeq (sSet 13 (eAnd (eCh dLt dLt (eV 11) (eV 12) (e1 dLenA (eV 2))) (e2 dEq (e2 dIx (eV 2) (eV 11)) (e2 dIx (eV 2) (e2 dMin2 (eV 12) (e2 dSub (e1 dLenA (eV 2)) (eC (.int 1)))))))) (sSeq (sIf (DL.tNot (eT (eCall m__law_like (aC (eCall m_is_meeting (aC (eV 1) (aC (eTup (aC (eV 11) (aC (eV 12) aN))) aN))) (aC (eV 13) aN))))) (sSeq (sRet (eC (.bl false))) sNx) sNx) sNx))))) (sSeq (sIf (DL.tAnd (eT (e2 dIsNot (eV 3) (eC .non))) (DL.tNot (eT (eCall m__law_like (aC (eLc (iSeq (eTup (aC (eV 3) (aC (e1 dRev (eV 3)) (aC (e1 dList (eV 3)) (aC (e2 dCat (eV 3) (eTup (aC (eC (.int 0)) aN))) aN)))))) [6] (bN 6) DL.tYes (eCall m_is_meeting (aC (eV 1) (aC (eV 6) aN)))) (aC (eLst (aC (eC (.bl true)) (aC (eC (.bl false)) (aC (eC (.bl false)) (aC (eC (.bl false)) aN))))) aN)))))) (sSeq (sRet (eC (.bl false))) sNx) sNx) (sSeq (sRet (eCall m__law_rows_right (aC (eV 0) (aC (eV 1) (aC (eV 3) aN))))) sNx))))))))))
def m__law_right : List D → C → R D := dDef 14 b__law_right
theorem sc__law_right : FnScope ["cup", "walk", "numbers", "first", "unlike", "most", "own", "often", "told", "place", "turn", "one", "other", "due"] ["cup", "walk"] (defScope (topS 48)) := ⟨rfl, rfl, rfl, by decide +kernel, rfl, by decide +kernel, by decide +kernel⟩
theorem ok__law_right (T : Tx K mg fa fd ec) : FnOk P w K mg base (L2.CX P w) 34 (fa 37) (fd 37) ["cup", "walk"] (spD ⟨K, fa, ec, TT⟩ 2 m__law_right) := by
  have sc := sc__law_right
  refine ok_def T.F__law_right sc rfl [] fun cdv A outer s H E hr => ?_
  exact (dss_cons (ds_set (i := 2) (ps_set (i := 2) sc.nd rfl (by first | exact Or.inl rfl | exact Or.inr rfl) (de_call (ok__law_list T) (hr.mono (by decide)) T.g__law_list T.F__law_list.kp T.b__law_list (takes_of rfl rfl rfl rfl) (da_cons (de_v (pv 1)) da_nil))) (fun _ _ _ h => h)) (dss_cons (ds_parDD (ps_par rfl sc.nd rfl rfl (by decide) rfl rfl (pa_cons (de_call (ok__law_first T) (hr.mono (by decide)) T.g__law_first T.F__law_first.kp T.b__law_first (takes_of rfl rfl rfl rfl) (da_cons (de_v (pv 2)) da_nil)) (pa_cons (de_sortSet T.n_sorted T.n_set (sh (de_v (pv 2)))) pa_nil)) (by rfl)) (fun _ _ _ h => h) (fun _ _ _ h => h)) (dss_cons (ds_set (i := 5) (ps_set (i := 5) sc.nd rfl (by first | exact Or.inl rfl | exact Or.inr rfl) (de_b1 (cr_max rfl) o_max T.n_max (by decide +kernel) (sh (fr (df_lc (own := [("own", 6)]) (di_seqS (sh (de_v (pv 4)))) (blkOk_by (by kernel_rfl)) (fun _ _ _ _ _ => (dg_n (pg_name (i := 6) sc.nd rfl (by first | exact Or.inl rfl | exact Or.inr rfl)))) (fun _ _ _ _ _ => dts_nil) (fun _ _ _ _ _ => (de_mth PySem.F.slot_list_count PySem.F.type_list_count mt_lcount PySem.F.slot_tuple_count PySem.F.type_tuple_count mt_tcount o_count (sh (de_v (pv 2))) (sh (de_v (pv 6))))) sc.nd))))) (fun _ _ _ h => h)) (dss_cons (ds_set (i := 7) (ps_setLc (i := 7) (own := [("own", 6)]) rfl sc.nd rfl rfl (sw_true rfl rfl rfl (by decide +kernel)) (di_seqS (sh (de_v (pv 4)))) (blkOk_by (by kernel_rfl)) (fun _ _ _ _ _ => (dg_n (pg_name (i := 6) sc.nd rfl (by first | exact Or.inl rfl | exact Or.inr rfl)))) (fun _ _ _ _ _ => (dts_one (dt_cmp (op_eqD hr.units) o_eq (sh (de_mth PySem.F.slot_list_count PySem.F.type_list_count mt_lcount PySem.F.slot_tuple_count PySem.F.type_tuple_count mt_tcount o_count (sh (de_v (pv 2))) (sh (de_v (pv 6))))) (sh (de_v (pv 5))) (nomark _)))) (fun _ _ _ _ _ => (de_v (pv 6)))) (fun _ _ _ h => lc_run (tF_of h))) (dss_cons (ds_set (i := 8) (ps_set (i := 8) sc.nd rfl (by first | exact Or.inl rfl | exact Or.inr rfl) (fr (df_lst (da_cons (de_call (ok_meets_itself T) (hr.mono (by decide)) T.g_meets_itself T.F_meets_itself.kp T.b_meets_itself (takes_of rfl rfl rfl rfl) (da_cons (de_v (pv 1)) da_nil)) (da_cons (de_call (ok_first_places T) (hr.mono (by decide)) T.g_first_places T.F_first_places.kp T.b_first_places (takes_of rfl rfl rfl rfl) (da_cons (de_v (pv 1)) da_nil)) (da_cons (de_call (ok_count_unlike T) (hr.mono (by decide)) T.g_count_unlike T.F_count_unlike.kp T.b_count_unlike (takes_of rfl rfl rfl rfl) (da_cons (de_v (pv 1)) da_nil)) (da_cons (de_call (ok_most_told T) (hr.mono (by decide)) T.g_most_told T.F_most_told.kp T.b_most_told (takes_of rfl rfl rfl rfl) (da_cons (de_v (pv 1)) da_nil)) da_nil))))))) (fun _ _ _ h => h)) (dss_cons (ds_if (dt_not (dt_val (de_call (ok__law_like T) (hr.mono (by decide)) T.g__law_like T.F__law_like.kp T.b__law_like (takes_of rfl rfl rfl rfl) (da_cons (de_v (pv 8)) (da_cons (fr (df_lst (da_cons (de_cmp op_notN o_isNot (sh (de_v (pv 3))) (sh de_non) (nomark _)) (da_cons (de_v (pv 3)) (da_cons (de_b1 call_lenA o_lenA T.n_len PySem.boot_len (sh (de_v (pv 4)))) (da_cons (de_tup (da_cons (de_v (pv 5)) (da_cons (de_ix ix_seq o_ix (sh (de_v (pv 7))) (sh de_int)) da_nil))) da_nil)))))) da_nil))))) (dss_cons (ds_ret de_bl) dss_nil) dss_nil) (dss_cons (ds_for (vs := [6]) (di_seq (de_tup (da_cons (de_ix ix_seq o_ix (sh (de_v (pv 4))) (sh de_int)) (da_cons (de_call (ok__law_some T) (hr.mono (by decide)) T.g__law_some T.F__law_some.kp T.b__law_some (takes_of rfl rfl rfl rfl) (da_cons (de_v (pv 0)) (da_cons (de_v (pv 4)) da_nil))) (da_cons (de_ix ix_seq o_ix (sh (de_v (pv 7))) (sh de_int)) (da_cons (de_op op_catAll o_cat (sh (de_ix ix_seq o_ix (sh (de_v (pv 4))) (sh (de_un un_neg o_neg (sh de_int))))) (sh de_int)) (da_cons (de_op op_catAll o_cat (sh (de_ix ix_seq o_ix (sh (de_v (pv 2))) (sh (de_call (ok__law_roll T) (hr.mono (by decide)) T.g__law_roll T.F__law_roll.kp T.b__law_roll (takes_of rfl rfl rfl rfl) (da_cons (de_v (pv 0)) (da_cons (de_b1 call_lenA o_lenA T.n_len PySem.boot_len (sh (de_v (pv 2)))) da_nil)))))) (sh de_int)) da_nil))))))) (dg_n (pg_name (i := 6) sc.nd rfl (by first | exact Or.inl rfl | exact Or.inr rfl))) (dss_cons (ds_if (dt_not (dt_val (de_call (ok__law_like T) (hr.mono (by decide)) T.g__law_like T.F__law_like.kp T.b__law_like (takes_of rfl rfl rfl rfl) (da_cons (de_call (ok_places_of T) (hr.mono (by decide)) T.g_places_of T.F_places_of.kp T.b_places_of (takes_of rfl rfl rfl rfl) (da_cons (de_v (pv 1)) (da_cons (de_v (pv 6)) da_nil))) (da_cons (de_t1 call_tupN o_tuple T.n_tuple boot_tuple (sh (fr (df_lc (own := [("place", 9)]) (ic (di_range1 (de_b1 call_lenA o_lenA T.n_len PySem.boot_len (sh (de_v (pv 2)))) T.n_range)) (blkOk_by (by kernel_rfl)) (fun _ _ _ _ _ => (dg_n (pg_name (i := 9) sc.nd rfl (by first | exact Or.inl rfl | exact Or.inr rfl)))) (fun _ _ _ _ _ => (dts_one (dt_cmp (op_eqD hr.units) o_eq (sh (de_ix ix_seq o_ix (sh (de_v (pv 2))) (sh (de_v (pv 9))))) (sh (de_v (pv 6))) (nomark _)))) (fun _ _ _ _ _ => (de_v (pv 9))) sc.nd)))) da_nil))))) (dss_cons (ds_ret de_bl) dss_nil) dss_nil) dss_nil) (passes_of rfl)) (dss_cons (ds_for (vs := [10]) (di_range1 de_int T.n_range) (dg_n (pg_name (i := 10) sc.nd rfl (by first | exact Or.inl rfl | exact Or.inr rfl))) (dss_forget [10, 11, 12, 13] (dss_cons (ds_parDD (ps_par rfl sc.nd rfl rfl (by decide) rfl rfl (pa_cons (de_call (ok__law_roll T) (hr.mono (by decide)) T.g__law_roll T.F__law_roll.kp T.b__law_roll (takes_of rfl rfl rfl rfl) (da_cons (de_v (pv 0)) (da_cons (de_op op_catAll o_cat (sh (de_b1 call_lenA o_lenA T.n_len PySem.boot_len (sh (de_v (pv 2))))) (sh de_int)) da_nil))) (pa_cons (de_call (ok__law_roll T) (hr.mono (by decide)) T.g__law_roll T.F__law_roll.kp T.b__law_roll (takes_of rfl rfl rfl rfl) (da_cons (de_v (pv 0)) (da_cons (de_op op_catAll o_cat (sh (de_b1 call_lenA o_lenA T.n_len PySem.boot_len (sh (de_v (pv 2))))) (sh de_int)) da_nil))) pa_nil)) (by rfl)) (fun _ _ _ h => h) (fun _ _ _ h => h)) (dss_cons (ds_set (i := 13) (ps_set (i := 13) sc.nd rfl (by first | exact Or.inl rfl | exact Or.inr rfl) (de_and (de_chain op_lt op_lt o_lt o_lt (sh (de_v (pv 11))) (sh (de_v (pv 12))) (sh (de_b1 call_lenA o_lenA T.n_len PySem.boot_len (sh (de_v (pv 2)))))) (de_and1 (de_cmp (op_eqD hr.units) o_eq (sh (de_ix ix_seq o_ix (sh (de_v (pv 2))) (sh (de_v (pv 11))))) (sh (de_ix ix_seq o_ix (sh (de_v (pv 2))) (sh (de_b2 (call_min2 rfl) o_min2 T.n_min (by decide +kernel) (sh (de_v (pv 12))) (sh (de_op op_sub o_sub (sh (de_b1 call_lenA o_lenA T.n_len PySem.boot_len (sh (de_v (pv 2))))) (sh de_int))))))) (nomark _))))) (fun _ _ _ h => h)) (dss_cons (ds_if (dt_not (dt_val (de_call (ok__law_like T) (hr.mono (by decide)) T.g__law_like T.F__law_like.kp T.b__law_like (takes_of rfl rfl rfl rfl) (da_cons (de_call (ok_is_meeting T) (hr.mono (by decide)) T.g_is_meeting T.F_is_meeting.kp T.b_is_meeting (takes_of rfl rfl rfl rfl) (da_cons (de_v (pv 1)) (da_cons (de_tup (da_cons (de_v (pv 11)) (da_cons (de_v (pv 12)) da_nil))) da_nil))) (da_cons (de_v (pv 13)) da_nil))))) (dss_cons (ds_ret de_bl) dss_nil) dss_nil) dss_nil)))) (passes_of rfl)) (dss_cons (ds_if (dw_and (dt_cmp op_notN o_isNot (sh (de_v (pv 3))) (sh de_non) (nomark _)) (dw_and1 (dt_not (dt_val (de_call (ok__law_like T) (hr.mono (by decide)) T.g__law_like T.F__law_like.kp T.b__law_like (takes_of rfl rfl rfl rfl) (da_cons (fr (df_lc (own := [("own", 6)]) (di_seqS (sh (de_tup (da_cons (de_v (pv 3)) (da_cons (de_rev (sh (de_v (pv 3)))) (da_cons (de_t1 call_list_of o_list T.n_list boot_list (sh (de_v (pv 3)))) (da_cons (de_op op_catAll o_cat (sh (de_v (pv 3))) (sh (de_tup (da_cons de_int da_nil)))) da_nil))))))) (blkOk_by (by kernel_rfl)) (fun _ _ _ _ _ => (dg_n (pg_name (i := 6) sc.nd rfl (by first | exact Or.inl rfl | exact Or.inr rfl)))) (fun _ _ _ _ _ => dts_nil) (fun _ _ _ _ _ => (de_call (ok_is_meeting T) (hr.mono (by decide)) T.g_is_meeting T.F_is_meeting.kp T.b_is_meeting takes0 (da_cons (de_v (pv 1)) (da_cons (de_v (pv 6)) da_nil)))) sc.nd)) (da_cons (fr (df_lst (da_cons de_bl (da_cons de_bl (da_cons de_bl (da_cons de_bl da_nil)))))) da_nil))))))).pt (dss_cons (ds_ret de_bl) dss_nil) dss_nil) (dss_cons (ds_ret (de_call (ok__law_rows_right T) (hr.mono (by decide)) T.g__law_rows_right T.F__law_rows_right.kp T.b__law_rows_right (takes_of rfl rfl rfl rfl) (da_cons (de_v (pv 0)) (da_cons (de_v (pv 1)) (da_cons (de_v (pv 3)) da_nil))))) dss_nil))))))))))
/-! _law_written_right -/
def b__law_written_right : Sx := (sSeq (sBd (bT (bsC (bN 0) (bsC (bN 1) bsN))) (eTup (aC (eTup (aC (eC (.int 0)) (aC (eTup (aC (eTup (aC (eC (.int 3)) (aC (eC (.int 1)) aN))) (aC (eTup (aC (eC (.int 2)) (aC (eC (.int 2)) aN))) aN))) aN))) (aC (eTup (aC (eC (.int 1)) (aC (eTup (aC (eTup (aC (eC (.int 2)) (aC (eC (.int 4)) aN))) (aC (eTup (aC (eC (.int 2)) (aC (eC (.int 8)) aN))) aN))) aN))) aN)))) (sSeq (sSet 2 (eLst (aC (eCall m_meets_itself (aC (eV 0) aN)) (aC (eCall m_first_places (aC (eV 0) aN)) (aC (eCall m_is_meeting (aC (eV 0) (aC (eTup (aC (eC (.int 2)) (aC (eC (.int 3)) aN))) aN))) (aC (eCall m_is_meeting (aC (eV 0) (aC (eTup (aC (eC (.int 3)) (aC (eC (.int 2)) aN))) aN))) (aC (eCall m_is_meeting (aC (eV 0) (aC (eTup (aC (eC (.int 2)) (aC (eC (.int 2)) aN))) aN))) (aC (eCall m_is_difference_row (aC (eV 0) (aC (eTup (aC (eC (.int 2)) (aC (e1 dNeg (eC (.int 1))) aN))) aN))) (aC (eCall m_is_difference_row (aC (eV 0) (aC (eTup (aC (eC (.int 0)) (aC (eC (.int 0)) aN))) aN))) aN))))))))) (sSeq (sSet 3 (eLst (aC (eC (.bl true)) (aC (eTup (aC (eC (.int 2)) (aC (eC (.int 3)) aN))) (aC (eC (.bl true)) (aC (eC (.bl false)) (aC (eC (.bl false)) (aC (eC (.bl true)) (aC (eC (.bl false)) aN))))))))) (sSeq (sSet 2 (e2 dCat (eV 2) (eLst (aC (eCall m_meets_itself (aC (eV 1) aN)) (aC (eCall m_difference_row (aC (eV 1) aN)) (aC (eCall m_first_places (aC (eTup (aC (eC (.int 7)) (aC (eTup (aC (eTup (aC (eC (.int 2)) (aC (eC (.int 0)) aN))) aN)) aN))) aN)) (aC (e2 dInA (eCall m_difference_row (aC (eTup (aC (eC (.int 7)) (aC (eTup (aC (eTup (aC (eC (.int 2)) (aC (eC (.int 0)) aN))) aN)) aN))) aN)) (eTup (aC (eTup (aC (eC (.int 1)) aN)) (aC (eTup (aC (e1 dNeg (eC (.int 1))) aN)) aN)))) (aC (eCall m_is_difference_row (aC (eV 0) (aC (eTup (aC (e1 dNeg (eC (.int 2))) (aC (eC (.int 1)) aN))) aN))) aN)))))))) (sSeq (sSet 3 (e2 dCat (eV 3) (eLst (aC (eC (.bl false)) (aC (eC .non) (aC (eTup (aC (eC (.int 0)) (aC (eC (.int 1)) aN))) (aC (eC (.bl true)) (aC (eC (.bl true)) aN)))))))) (sSeq (sSet 2 (e2 dCat (eV 2) (eLst (aC (eCall m_count_unlike (aC (eV 0) aN)) (aC (eCall m_places_of (aC (eV 0) (aC (eC (.int 2)) aN))) (aC (eCall m_places_of (aC (eV 0) (aC (eC (.int 9)) aN))) (aC (eCall m_most_told (aC (eV 0) aN)) (aC (eCall m_most_told (aC (eV 1) aN)) (aC (eCall m_count_unlike (aC (eTup (aC (eC (.int 0)) (aC (eTup aN) aN))) aN)) (aC (eCall m_most_told (aC (eTup (aC (eC (.int 0)) (aC (eTup (aC (eTup (aC (eC (.int 2)) (aC (eC (.int 1)) aN))) (aC (eTup (aC (eC (.int 2)) (aC (e1 dNeg (eC (.int 1))) aN))) aN))) aN))) aN)) aN)))))))))) (sSeq (sSet 3 (e2 dCat (eV 3) (eLst (aC (eC (.int 5)) (aC (eTup (aC (eC (.int 2)) (aC (eC (.int 3)) aN))) (aC (eTup aN) (aC (eTup (aC (eC (.int 2)) (aC (eC (.int 2)) aN))) (aC (eTup (aC (eC (.int 1)) (aC (eC (.int 1)) aN))) (aC (eC (.int 1)) (aC (eTup (aC (eC (.int 2)) (aC (eC (.int 0)) aN))) aN)))))))))) (sSeq (sSet 2 (e2 dCat (eV 2) (eLst (aC (eCall m_is_difference_row (aC (eTup (aC (eC (.int 0)) (aC (eTup (aC (eTup (aC (eC (.int 3)) (aC (eC (.int 1)) aN))) (aC (eTup (aC (eC (.int 2)) (aC (eC (.int 3)) aN))) aN))) aN))) (aC (eTup (aC (eC (.int 3)) (aC (e1 dNeg (eC (.int 1))) aN))) aN))) (aC (eCall m_is_difference_row (aC (eTup (aC (eC (.int 0)) (aC (eTup (aC (eTup (aC (eC (.int 1)) (aC (eC (.int 5)) aN))) aN)) aN))) (aC (eTup (aC (eC (.int 0)) aN)) aN))) (aC (eCall m_is_difference_row (aC (eTup (aC (eC (.int 0)) (aC (eTup aN) aN))) (aC (eTup aN) aN))) aN)))))) (sSeq (sSet 2 (e2 dCat (eV 2) (eLst (aC (eCall m_meets_itself (aC (eTup (aC (eC (.int 0)) (aC (eTup (aC (eTup (aC (eC (.int 1)) (aC (eC (.int 0)) aN))) (aC (eTup (aC (eC (.int 1)) (aC (eC (.int 0)) aN))) aN))) aN))) aN)) (aC (eCall m_is_difference_row (aC (eTup (aC (eC (.int 0)) (aC (eTup (aC (eTup (aC (eC (.int 2)) (aC (eC (.int 0)) aN))) (aC (eTup (aC (eC (.int 1)) (aC (eC (.int 0)) aN))) aN))) aN))) (aC (eTup (aC (eC (.int 1)) (aC (eC (.int 0)) aN))) aN))) aN))))) (sSeq (sSet 3 (e2 dCat (eV 3) (eLst (aC (eC (.bl false)) (aC (eC (.bl false)) (aC (eC (.bl false)) (aC (eC (.bl false)) (aC (eC (.bl true)) aN)))))))) (sSeq (sSet 2 (e2 dCat (eV 2) (eLst (aC (eCall m_first_places (aC (eTup (aC (eC (.int 0)) (aC (eTup (aC (eTup (aC (eC (.int 4)) (aC (eC (.int 5)) aN))) (aC (eTup (aC (eC (.int 3)) (aC (eC (.int 15)) aN))) aN))) aN))) aN)) (aC (eCall m_first_places (aC (eTup (aC (eC (.int 0)) (aC (eTup (aC (eTup (aC (eC (.int 5)) (aC (eC (.int 1)) aN))) (aC (eTup (aC (eC (.int 2)) (aC (eC (.int 3)) aN))) aN))) aN))) aN)) (aC (eCall m_first_places (aC (eTup (aC (eC (.int 0)) (aC (eTup (aC (eTup (aC (eC (.int 2)) (aC (eC (.int 10)) aN))) (aC (eTup (aC (eC (.int 5)) (aC (eC (.int 0)) aN))) aN))) aN))) aN)) (aC (eCall m_most_told (aC (eTup (aC (eC (.int 5)) (aC (eTup (aC (eTup (aC (eC (.int 2)) (aC (eC (.int 3)) aN))) (aC (eTup (aC (eC (.int 4)) (aC (eC (.int 0)) aN))) (aC (eTup (aC (eC (.int 2)) (aC (e1 dNeg (eC (.int 3))) aN))) aN)))) aN))) aN)) aN))))))) (sSeq (sSet 3 (e2 dCat (eV 3) (eLst (aC (eTup (aC (eC (.int 3)) (aC (eC (.int 4)) aN))) (aC (eTup (aC (eC (.int 3)) (aC (eC (.int 5)) aN))) (aC (eTup (aC (eC (.int 0)) (aC (eC (.int 2)) aN))) (aC (eTup (aC (eC (.int 8)) (aC (eC (.int 5)) aN))) aN))))))) (sSeq (sSet 2 (e2 dCat (eV 2) (eLst (aC (eCall m_is_meeting (aC (eV 0) (aC (eC .non) aN))) (aC (eCall m_is_meeting (aC (eV 0) (aC (eTup (aC (eC (.int 2)) (aC (eC (.bl true)) aN))) aN))) (aC (eCall m_is_meeting (aC (eV 0) (aC (eTup (aC (e1 dNeg (eC (.int 4))) (aC (eC (.int 3)) aN))) aN))) (aC (eCall m_is_difference_row (aC (eV 0) (aC (eTup (aC (eC (.bl true)) (aC (e1 dNeg (eC (.int 1))) aN))) aN))) aN))))))) (sSeq (sSet 2 (e2 dCat (eV 2) (eLst (aC (eCall m_is_difference_row (aC (eV 0) (aC (eC .non) aN))) (aC (eCall m_is_difference_row (aC (eTup (aC (eC (.int 0)) (aC (eTup (aC (eTup (aC (eC (.int 2)) (aC (eC (.int 1)) aN))) (aC (eTup (aC (eC (.int 2)) (aC (e1 dNeg (eC (.int 1))) aN))) aN))) aN))) (aC (eTup (aC (eC (.bl true)) (aC (eC (.bl true)) aN))) aN))) aN))))) (sSeq (sRet (eCall m__law_like (aC (eV 2) (aC (e2 dCat (eV 3) (e2 dRep (eLst (aC (eC (.bl false)) aN)) (eC (.int 6)))) aN)))) sNx)))))))))))))))
def m__law_written_right : List D → C → R D := dDef 4 b__law_written_right
theorem sc__law_written_right : FnScope ["w", "v", "told", "due"] [] (defScope (topS 49)) := ⟨rfl, rfl, rfl, by decide +kernel, rfl, by decide +kernel, by decide +kernel⟩
theorem ok__law_written_right (T : Tx K mg fa fd ec) : FnOk P w K mg base (L2.CX P w) 33 (fa 38) (fd 38) [] (spD ⟨K, fa, ec, TT⟩ 0 m__law_written_right) := by
  have sc := sc__law_written_right
  refine ok_def T.F__law_written_right sc rfl [] fun cdv A outer s H E hr => ?_
  exact (dss_cons (ds_bd (vs := [0, 1]) (ps_asg (de_tup (da_cons (de_tup (da_cons de_int (da_cons (de_tup (da_cons (de_tup (da_cons de_int (da_cons de_int da_nil))) (da_cons (de_tup (da_cons de_int (da_cons de_int da_nil))) da_nil))) da_nil))) (da_cons (de_tup (da_cons de_int (da_cons (de_tup (da_cons (de_tup (da_cons de_int (da_cons de_int da_nil))) (da_cons (de_tup (da_cons de_int (da_cons de_int da_nil))) da_nil))) da_nil))) da_nil))) (dg_t (fun _ _ _ h => bsC_len (fun _ _ _ h => bsC_len (fun _ _ _ h => bsN_len h) h) h) (pg_seq rfl (dgs_c (pgs_cons (dg_n (pg_name (i := 0) sc.nd rfl (by first | exact Or.inl rfl | exact Or.inr rfl))) (dgs_c (pgs_cons (dg_n (pg_name (i := 1) sc.nd rfl (by first | exact Or.inl rfl | exact Or.inr rfl))) dgs_n))))))) (fun _ _ _ h => h)) (dss_cons (ds_set (i := 2) (ps_set (i := 2) sc.nd rfl (by first | exact Or.inl rfl | exact Or.inr rfl) (fr (df_lst (da_cons (de_call (ok_meets_itself T) (hr.mono (by decide)) T.g_meets_itself T.F_meets_itself.kp T.b_meets_itself (takes_of rfl rfl rfl rfl) (da_cons (de_v (pv 0)) da_nil)) (da_cons (de_call (ok_first_places T) (hr.mono (by decide)) T.g_first_places T.F_first_places.kp T.b_first_places (takes_of rfl rfl rfl rfl) (da_cons (de_v (pv 0)) da_nil)) (da_cons (de_call (ok_is_meeting T) (hr.mono (by decide)) T.g_is_meeting T.F_is_meeting.kp T.b_is_meeting (takes_of rfl rfl rfl rfl) (da_cons (de_v (pv 0)) (da_cons (de_tup (da_cons de_int (da_cons de_int da_nil))) da_nil))) (da_cons (de_call (ok_is_meeting T) (hr.mono (by decide)) T.g_is_meeting T.F_is_meeting.kp T.b_is_meeting (takes_of rfl rfl rfl rfl) (da_cons (de_v (pv 0)) (da_cons (de_tup (da_cons de_int (da_cons de_int da_nil))) da_nil))) (da_cons (de_call (ok_is_meeting T) (hr.mono (by decide)) T.g_is_meeting T.F_is_meeting.kp T.b_is_meeting (takes_of rfl rfl rfl rfl) (da_cons (de_v (pv 0)) (da_cons (de_tup (da_cons de_int (da_cons de_int da_nil))) da_nil))) (da_cons (de_call (ok_is_difference_row T) (hr.mono (by decide)) T.g_is_difference_row T.F_is_difference_row.kp T.b_is_difference_row (takes_of rfl rfl rfl rfl) (da_cons (de_v (pv 0)) (da_cons (de_tup (da_cons de_int (da_cons (de_un un_neg o_neg (sh de_int)) da_nil))) da_nil))) (da_cons (de_call (ok_is_difference_row T) (hr.mono (by decide)) T.g_is_difference_row T.F_is_difference_row.kp T.b_is_difference_row (takes_of rfl rfl rfl rfl) (da_cons (de_v (pv 0)) (da_cons (de_tup (da_cons de_int (da_cons de_int da_nil))) da_nil))) da_nil)))))))))) (fun _ _ _ h => h)) (dss_cons (ds_set (i := 3) (ps_set (i := 3) sc.nd rfl (by first | exact Or.inl rfl | exact Or.inr rfl) (fr (df_lst (da_cons de_bl (da_cons (de_tup (da_cons de_int (da_cons de_int da_nil))) (da_cons de_bl (da_cons de_bl (da_cons de_bl (da_cons de_bl (da_cons de_bl da_nil)))))))))) (fun _ _ _ h => h)) (dss_cons (ds_set (i := 2) (ps_set (i := 2) sc.nd rfl (by first | exact Or.inl rfl | exact Or.inr rfl) (de_op op_catAll o_cat (sh (de_v (pv 2))) (sh (fr (df_lst (da_cons (de_call (ok_meets_itself T) (hr.mono (by decide)) T.g_meets_itself T.F_meets_itself.kp T.b_meets_itself (takes_of rfl rfl rfl rfl) (da_cons (de_v (pv 1)) da_nil)) (da_cons (de_call (ok_difference_row T) (hr.mono (by decide)) T.g_difference_row T.F_difference_row.kp T.b_difference_row (takes_of rfl rfl rfl rfl) (da_cons (de_v (pv 1)) da_nil)) (da_cons (de_call (ok_first_places T) (hr.mono (by decide)) T.g_first_places T.F_first_places.kp T.b_first_places (takes_of rfl rfl rfl rfl) (da_cons (de_tup (da_cons de_int (da_cons (de_tup (da_cons (de_tup (da_cons de_int (da_cons de_int da_nil))) da_nil)) da_nil))) da_nil)) (da_cons (de_cmp (op_inQ hr.units) o_inA (sh (de_call (ok_difference_row T) (hr.mono (by decide)) T.g_difference_row T.F_difference_row.kp T.b_difference_row (takes_of rfl rfl rfl rfl) (da_cons (de_tup (da_cons de_int (da_cons (de_tup (da_cons (de_tup (da_cons de_int (da_cons de_int da_nil))) da_nil)) da_nil))) da_nil))) (sh (de_tup (da_cons (de_tup (da_cons de_int da_nil)) (da_cons (de_tup (da_cons (de_un un_neg o_neg (sh de_int)) da_nil)) da_nil)))) rfl) (da_cons (de_call (ok_is_difference_row T) (hr.mono (by decide)) T.g_is_difference_row T.F_is_difference_row.kp T.b_is_difference_row (takes_of rfl rfl rfl rfl) (da_cons (de_v (pv 0)) (da_cons (de_tup (da_cons (de_un un_neg o_neg (sh de_int)) (da_cons de_int da_nil))) da_nil))) da_nil)))))))))) (fun _ _ _ h => h)) (dss_cons (ds_set (i := 3) (ps_set (i := 3) sc.nd rfl (by first | exact Or.inl rfl | exact Or.inr rfl) (de_op op_catAll o_cat (sh (de_v (pv 3))) (sh (fr (df_lst (da_cons de_bl (da_cons de_non (da_cons (de_tup (da_cons de_int (da_cons de_int da_nil))) (da_cons de_bl (da_cons de_bl da_nil)))))))))) (fun _ _ _ h => h)) (dss_cons (ds_set (i := 2) (ps_set (i := 2) sc.nd rfl (by first | exact Or.inl rfl | exact Or.inr rfl) (de_op op_catAll o_cat (sh (de_v (pv 2))) (sh (fr (df_lst (da_cons (de_call (ok_count_unlike T) (hr.mono (by decide)) T.g_count_unlike T.F_count_unlike.kp T.b_count_unlike (takes_of rfl rfl rfl rfl) (da_cons (de_v (pv 0)) da_nil)) (da_cons (de_call (ok_places_of T) (hr.mono (by decide)) T.g_places_of T.F_places_of.kp T.b_places_of (takes_of rfl rfl rfl rfl) (da_cons (de_v (pv 0)) (da_cons de_int da_nil))) (da_cons (de_call (ok_places_of T) (hr.mono (by decide)) T.g_places_of T.F_places_of.kp T.b_places_of (takes_of rfl rfl rfl rfl) (da_cons (de_v (pv 0)) (da_cons de_int da_nil))) (da_cons (de_call (ok_most_told T) (hr.mono (by decide)) T.g_most_told T.F_most_told.kp T.b_most_told (takes_of rfl rfl rfl rfl) (da_cons (de_v (pv 0)) da_nil)) (da_cons (de_call (ok_most_told T) (hr.mono (by decide)) T.g_most_told T.F_most_told.kp T.b_most_told (takes_of rfl rfl rfl rfl) (da_cons (de_v (pv 1)) da_nil)) (da_cons (de_call (ok_count_unlike T) (hr.mono (by decide)) T.g_count_unlike T.F_count_unlike.kp T.b_count_unlike (takes_of rfl rfl rfl rfl) (da_cons (de_tup (da_cons de_int (da_cons (de_tup da_nil) da_nil))) da_nil)) (da_cons (de_call (ok_most_told T) (hr.mono (by decide)) T.g_most_told T.F_most_told.kp T.b_most_told (takes_of rfl rfl rfl rfl) (da_cons (de_tup (da_cons de_int (da_cons (de_tup (da_cons (de_tup (da_cons de_int (da_cons de_int da_nil))) (da_cons (de_tup (da_cons de_int (da_cons (de_un un_neg o_neg (sh de_int)) da_nil))) da_nil))) da_nil))) da_nil)) da_nil)))))))))))) (fun _ _ _ h => h)) (dss_cons (ds_set (i := 3) (ps_set (i := 3) sc.nd rfl (by first | exact Or.inl rfl | exact Or.inr rfl) (de_op op_catAll o_cat (sh (de_v (pv 3))) (sh (fr (df_lst (da_cons de_int (da_cons (de_tup (da_cons de_int (da_cons de_int da_nil))) (da_cons (de_tup da_nil) (da_cons (de_tup (da_cons de_int (da_cons de_int da_nil))) (da_cons (de_tup (da_cons de_int (da_cons de_int da_nil))) (da_cons de_int (da_cons (de_tup (da_cons de_int (da_cons de_int da_nil))) da_nil)))))))))))) (fun _ _ _ h => h)) (dss_cons (ds_set (i := 2) (ps_set (i := 2) sc.nd rfl (by first | exact Or.inl rfl | exact Or.inr rfl) (de_op op_catAll o_cat (sh (de_v (pv 2))) (sh (fr (df_lst (da_cons (de_call (ok_is_difference_row T) (hr.mono (by decide)) T.g_is_difference_row T.F_is_difference_row.kp T.b_is_difference_row (takes_of rfl rfl rfl rfl) (da_cons (de_tup (da_cons de_int (da_cons (de_tup (da_cons (de_tup (da_cons de_int (da_cons de_int da_nil))) (da_cons (de_tup (da_cons de_int (da_cons de_int da_nil))) da_nil))) da_nil))) (da_cons (de_tup (da_cons de_int (da_cons (de_un un_neg o_neg (sh de_int)) da_nil))) da_nil))) (da_cons (de_call (ok_is_difference_row T) (hr.mono (by decide)) T.g_is_difference_row T.F_is_difference_row.kp T.b_is_difference_row (takes_of rfl rfl rfl rfl) (da_cons (de_tup (da_cons de_int (da_cons (de_tup (da_cons (de_tup (da_cons de_int (da_cons de_int da_nil))) da_nil)) da_nil))) (da_cons (de_tup (da_cons de_int da_nil)) da_nil))) (da_cons (de_call (ok_is_difference_row T) (hr.mono (by decide)) T.g_is_difference_row T.F_is_difference_row.kp T.b_is_difference_row (takes_of rfl rfl rfl rfl) (da_cons (de_tup (da_cons de_int (da_cons (de_tup da_nil) da_nil))) (da_cons (de_tup da_nil) da_nil))) da_nil)))))))) (fun _ _ _ h => h)) (dss_cons (ds_set (i := 2) (ps_set (i := 2) sc.nd rfl (by first | exact Or.inl rfl | exact Or.inr rfl) (de_op op_catAll o_cat (sh (de_v (pv 2))) (sh (fr (df_lst (da_cons (de_call (ok_meets_itself T) (hr.mono (by decide)) T.g_meets_itself T.F_meets_itself.kp T.b_meets_itself (takes_of rfl rfl rfl rfl) (da_cons (de_tup (da_cons de_int (da_cons (de_tup (da_cons (de_tup (da_cons de_int (da_cons de_int da_nil))) (da_cons (de_tup (da_cons de_int (da_cons de_int da_nil))) da_nil))) da_nil))) da_nil)) (da_cons (de_call (ok_is_difference_row T) (hr.mono (by decide)) T.g_is_difference_row T.F_is_difference_row.kp T.b_is_difference_row (takes_of rfl rfl rfl rfl) (da_cons (de_tup (da_cons de_int (da_cons (de_tup (da_cons (de_tup (da_cons de_int (da_cons de_int da_nil))) (da_cons (de_tup (da_cons de_int (da_cons de_int da_nil))) da_nil))) da_nil))) (da_cons (de_tup (da_cons de_int (da_cons de_int da_nil))) da_nil))) da_nil))))))) (fun _ _ _ h => h)) (dss_cons (ds_set (i := 3) (ps_set (i := 3) sc.nd rfl (by first | exact Or.inl rfl | exact Or.inr rfl) (de_op op_catAll o_cat (sh (de_v (pv 3))) (sh (fr (df_lst (da_cons de_bl (da_cons de_bl (da_cons de_bl (da_cons de_bl (da_cons de_bl da_nil)))))))))) (fun _ _ _ h => h)) (dss_cons (ds_set (i := 2) (ps_set (i := 2) sc.nd rfl (by first | exact Or.inl rfl | exact Or.inr rfl) (de_op op_catAll o_cat (sh (de_v (pv 2))) (sh (fr (df_lst (da_cons (de_call (ok_first_places T) (hr.mono (by decide)) T.g_first_places T.F_first_places.kp T.b_first_places (takes_of rfl rfl rfl rfl) (da_cons (de_tup (da_cons de_int (da_cons (de_tup (da_cons (de_tup (da_cons de_int (da_cons de_int da_nil))) (da_cons (de_tup (da_cons de_int (da_cons de_int da_nil))) da_nil))) da_nil))) da_nil)) (da_cons (de_call (ok_first_places T) (hr.mono (by decide)) T.g_first_places T.F_first_places.kp T.b_first_places (takes_of rfl rfl rfl rfl) (da_cons (de_tup (da_cons de_int (da_cons (de_tup (da_cons (de_tup (da_cons de_int (da_cons de_int da_nil))) (da_cons (de_tup (da_cons de_int (da_cons de_int da_nil))) da_nil))) da_nil))) da_nil)) (da_cons (de_call (ok_first_places T) (hr.mono (by decide)) T.g_first_places T.F_first_places.kp T.b_first_places (takes_of rfl rfl rfl rfl) (da_cons (de_tup (da_cons de_int (da_cons (de_tup (da_cons (de_tup (da_cons de_int (da_cons de_int da_nil))) (da_cons (de_tup (da_cons de_int (da_cons de_int da_nil))) da_nil))) da_nil))) da_nil)) (da_cons (de_call (ok_most_told T) (hr.mono (by decide)) T.g_most_told T.F_most_told.kp T.b_most_told (takes_of rfl rfl rfl rfl) (da_cons (de_tup (da_cons de_int (da_cons (de_tup (da_cons (de_tup (da_cons de_int (da_cons de_int da_nil))) (da_cons (de_tup (da_cons de_int (da_cons de_int da_nil))) (da_cons (de_tup (da_cons de_int (da_cons (de_un un_neg o_neg (sh de_int)) da_nil))) da_nil)))) da_nil))) da_nil)) da_nil))))))))) (fun _ _ _ h => h)) (dss_cons (ds_set (i := 3) (ps_set (i := 3) sc.nd rfl (by first | exact Or.inl rfl | exact Or.inr rfl) (de_op op_catAll o_cat (sh (de_v (pv 3))) (sh (fr (df_lst (da_cons (de_tup (da_cons de_int (da_cons de_int da_nil))) (da_cons (de_tup (da_cons de_int (da_cons de_int da_nil))) (da_cons (de_tup (da_cons de_int (da_cons de_int da_nil))) (da_cons (de_tup (da_cons de_int (da_cons de_int da_nil))) da_nil))))))))) (fun _ _ _ h => h)) (dss_cons (ds_set (i := 2) (ps_set (i := 2) sc.nd rfl (by first | exact Or.inl rfl | exact Or.inr rfl) (de_op op_catAll o_cat (sh (de_v (pv 2))) (sh (fr (df_lst (da_cons (de_call (ok_is_meeting T) (hr.mono (by decide)) T.g_is_meeting T.F_is_meeting.kp T.b_is_meeting (takes_of rfl rfl rfl rfl) (da_cons (de_v (pv 0)) (da_cons de_non da_nil))) (da_cons (de_call (ok_is_meeting T) (hr.mono (by decide)) T.g_is_meeting T.F_is_meeting.kp T.b_is_meeting (takes_of rfl rfl rfl rfl) (da_cons (de_v (pv 0)) (da_cons (de_tup (da_cons de_int (da_cons de_bl da_nil))) da_nil))) (da_cons (de_call (ok_is_meeting T) (hr.mono (by decide)) T.g_is_meeting T.F_is_meeting.kp T.b_is_meeting (takes_of rfl rfl rfl rfl) (da_cons (de_v (pv 0)) (da_cons (de_tup (da_cons (de_un un_neg o_neg (sh de_int)) (da_cons de_int da_nil))) da_nil))) (da_cons (de_call (ok_is_difference_row T) (hr.mono (by decide)) T.g_is_difference_row T.F_is_difference_row.kp T.b_is_difference_row (takes_of rfl rfl rfl rfl) (da_cons (de_v (pv 0)) (da_cons (de_tup (da_cons de_bl (da_cons (de_un un_neg o_neg (sh de_int)) da_nil))) da_nil))) da_nil))))))))) (fun _ _ _ h => h)) (dss_cons (ds_set (i := 2) (ps_set (i := 2) sc.nd rfl (by first | exact Or.inl rfl | exact Or.inr rfl) (de_op op_catAll o_cat (sh (de_v (pv 2))) (sh (fr (df_lst (da_cons (de_call (ok_is_difference_row T) (hr.mono (by decide)) T.g_is_difference_row T.F_is_difference_row.kp T.b_is_difference_row (takes_of rfl rfl rfl rfl) (da_cons (de_v (pv 0)) (da_cons de_non da_nil))) (da_cons (de_call (ok_is_difference_row T) (hr.mono (by decide)) T.g_is_difference_row T.F_is_difference_row.kp T.b_is_difference_row (takes_of rfl rfl rfl rfl) (da_cons (de_tup (da_cons de_int (da_cons (de_tup (da_cons (de_tup (da_cons de_int (da_cons de_int da_nil))) (da_cons (de_tup (da_cons de_int (da_cons (de_un un_neg o_neg (sh de_int)) da_nil))) da_nil))) da_nil))) (da_cons (de_tup (da_cons de_bl (da_cons de_bl da_nil))) da_nil))) da_nil))))))) (fun _ _ _ h => h)) (dss_cons (ds_ret (de_call (ok__law_like T) (hr.mono (by decide)) T.g__law_like T.F__law_like.kp T.b__law_like (takes_of rfl rfl rfl rfl) (da_cons (de_v (pv 2)) (da_cons (de_op op_catAll o_cat (sh (de_v (pv 3))) (sh (de_op op_rep o_rep (sh (fr (df_lst (da_cons de_bl da_nil)))) (sh de_int)))) da_nil)))) dss_nil)))))))))))))))
/-! law -/
def b_law : Sx := (sSeq (sIf (DL.tNot (eT (eCall0 m__law_written_right))) (sSeq (sRet (eC (.bl false))) sNx) sNx) (sCup 1 (eCall m__law_cup (aC (eV 0) aN)) (sSeq (sRet (e2 dEq (eLc (iRange1 (eC (.int 14))) [2] (bN 2) (DL.tNot (eT (eCall m__law_right (aC (eV 1) (aC (eCall m__law_walk (aC (eV 1) (aC (eC (.int 200)) aN))) aN))))) (eV 2)) (eLst aN))) sNx)))
theorem sc_law : FnScope ["script", "cup", "turn"] ["script"] (defScope (topS 50)) := ⟨rfl, rfl, rfl, by decide +kernel, rfl, by decide +kernel, by decide +kernel⟩
theorem ok_law (T : Tx K mg fa fd ec) (hlaw : ∀ ns : List Int, ns.length ≤ 63 → ∃ c', b_law (lawIn 3 ns) none = .ok (.rt (.bl true)) c') : FnOk P w K mg base (L2.CX P w) 35 (fa 39) (fd 39) ["script"] (spLaw K TT) := by
  have sc := sc_law
  refine ok_lawdef (fa := fa) (ec := ec) T.F_law sc hlaw fun cdv A outer s H E hr => ?_
  exact (ll_cons (W := WofE E) (ds_if (dt_not (dt_val (de_call0 (ok__law_written_right T) (hr.mono (by decide)) T.g__law_written_right T.F__law_written_right.kp T.b__law_written_right))) (dss_cons (ds_ret de_bl) dss_nil) dss_nil) (ll_cup (W := WofE E) (i := 1) (ps_set (i := 1) sc.nd rfl (by first | exact Or.inl rfl | exact Or.inr rfl) (de_call (ok__law_cup T) (hr.mono (by decide)) T.g__law_cup T.F__law_cup.kp T.b__law_cup (takes_of rfl rfl rfl rfl) (da_cons (de_v (pv 0)) da_nil))) (fun _ _ _ h => h) (ll_of (W := WofE E) (m' := []) (dss_cons (ds_ret (de_cmp (op_eqD hr.units) o_eq (sh (fr (df_lc (own := [("turn", 2)]) (ic (di_range1 de_int T.n_range)) (blkOk_by (by kernel_rfl)) (fun _ _ _ _ _ => (dg_n (pg_name (i := 2) sc.nd rfl (by first | exact Or.inl rfl | exact Or.inr rfl)))) (fun _ _ _ _ _ => (dts_one (dt_not (dt_val (de_call (ok__law_right T) (hr.mono (by decide)) T.g__law_right T.F__law_right.kp T.b__law_right takes0 (da_cons (de_v (pv 1)) (da_cons (de_call (ok__law_walk T) (hr.mono (by decide)) T.g__law_walk T.F__law_walk.kp T.b__law_walk takes0 (da_cons (de_v (pv 1)) (da_cons de_int da_nil))) da_nil))))))) (fun _ _ _ _ _ => (de_v (pv 2))) sc.nd))) (sh (fr (df_lst da_nil))) (nomark _))) dss_nil))))
end
end K47

namespace K47
open PySem PySem.Spec PyProof.Rows L2 DL
set_option maxHeartbeats 4000000 in
theorem tx_mk {K : PySem.W.Frag} {mg : Str → Option Value} {f0 f1 f2 f3 f4 f5 f6 f7 f8 f9 f10 f11 f12 f13 f14 f15 f16 f17 f18 f19 f20 f21 f22 f23 f24 f25 f26 f27 f28 f29 f30 f31 f32 f33 f34 f35 f36 f37 f38 f39 : Addr} {d0 d1 d2 d3 d4 d5 d6 d7 d8 d9 d10 d11 d12 d13 d14 d15 d16 d17 d18 d19 d20 d21 d22 d23 d24 d25 d26 d27 d28 d29 d30 d31 d32 d33 d34 d35 d36 d37 d38 d39 : FuncData} {C1 C2 : Addr}
    (F0 : Fun K "is_integer" "is_integer" (topS 5) f0 d0) (g0 : mg "is_integer" = some (.ref f0)) (B0 : Binds K d0 ["value"] [])
    (F1 : Fun K "is_number" "is_number" (topS 6) f1 d1) (g1 : mg "is_number" = some (.ref f1)) (B1 : Binds K d1 ["value", "low", "high"] [])
    (F2 : Fun K "is_tuple_of" "is_tuple_of" (topS 7) f2 d2) (g2 : mg "is_tuple_of" = some (.ref f2)) (B2 : Binds K d2 ["value", "low", "high"] [])
    (F3 : Fun K "number_in" "number_in" (topS 11) f3 d3) (g3 : mg "number_in" = some (.ref f3)) (B3 : Binds K d3 ["sizes"] [])
    (F4 : Fun K "sizes_in" "sizes_in" (topS 12) f4 d4) (g4 : mg "sizes_in" = some (.ref f4)) (B4 : Binds K d4 ["pairs"] [])
    (F5 : Fun K "fits_shape" "fits_shape" (topS 13) f5 d5) (g5 : mg "fits_shape" = some (.ref f5)) (B5 : Binds K d5 ["value"] [])
    (F6 : Fun K "fits_pairs" "fits_pairs" (topS 14) f6 d6) (g6 : mg "fits_pairs" = some (.ref f6)) (B6 : Binds K d6 ["value"] [])
    (F7 : Fun K "fits_walk" "fits_walk" (topS 15) f7 d7) (g7 : mg "fits_walk" = some (.ref f7)) (B7 : Binds K d7 ["value"] [])
    (F8 : Fun K "need_walk" "need_walk" (topS 16) f8 d8) (g8 : mg "need_walk" = some (.ref f8)) (B8 : Binds K d8 ["value"] [])
    (F9 : Fun K "digits_in" "digits_in" (topS 17) f9 d9) (g9 : mg "digits_in" = some (.ref f9)) (B9 : Binds K d9 ["sizes", "place"] [])
    (F10 : Fun K "list_in" "list_in" (topS 19) f10 d10) (g10 : mg "list_in" = some (.ref f10)) (B10 : Binds K d10 ["walk"] [])
    (F11 : Fun K "need_integer" "need_integer" (topS 21) f11 d11) (g11 : mg "need_integer" = some (.ref f11)) (B11 : Binds K d11 ["value"] [])
    (F12 : Fun K "places_by_number" "places_by_number" (topS 22) f12 d12) (g12 : mg "places_by_number" = some (.ref f12)) (B12 : Binds K d12 ["numbers"] [])
    (F13 : Fun K "first_in" "first_in" (topS 23) f13 d13) (g13 : mg "first_in" = some (.ref f13)) (B13 : Binds K d13 ["numbers"] [])
    (F14 : Fun K "meets_itself" "meets_itself" (topS 24) f14 d14) (g14 : mg "meets_itself" = some (.ref f14)) (B14 : Binds K d14 ["walk"] [])
    (F15 : Fun K "first_places" "first_places" (topS 25) f15 d15) (g15 : mg "first_places" = some (.ref f15)) (B15 : Binds K d15 ["walk"] [])
    (F16 : Fun K "is_meeting" "is_meeting" (topS 26) f16 d16) (g16 : mg "is_meeting" = some (.ref f16)) (B16 : Binds K d16 ["walk", "value"] [])
    (F17 : Fun K "difference_row" "difference_row" (topS 27) f17 d17) (g17 : mg "difference_row" = some (.ref f17)) (B17 : Binds K d17 ["walk"] [])
    (F18 : Fun K "is_difference_row" "is_difference_row" (topS 28) f18 d18) (g18 : mg "is_difference_row" = some (.ref f18)) (B18 : Binds K d18 ["walk", "value"] [])
    (F19 : Fun K "count_unlike" "count_unlike" (topS 29) f19 d19) (g19 : mg "count_unlike" = some (.ref f19)) (B19 : Binds K d19 ["walk"] [])
    (F20 : Fun K "places_of" "places_of" (topS 30) f20 d20) (g20 : mg "places_of" = some (.ref f20)) (B20 : Binds K d20 ["walk", "number"] [])
    (F21 : Fun K "most_told" "most_told" (topS 31) f21 d21) (g21 : mg "most_told" = some (.ref f21)) (B21 : Binds K d21 ["walk"] [])
    (F22 : Fun K "_law_cup" "_law_cup" (topS 33) f22 d22) (g22 : mg "_law_cup" = some (.ref f22)) (B22 : Binds K d22 ["script"] [])
    (F23 : Fun K "_law_roll" "_law_roll" (topS 34) f23 d23) (g23 : mg "_law_roll" = some (.ref f23)) (B23 : Binds K d23 ["cup", "many"] [])
    (F24 : Fun K "_law_some" "_law_some" (topS 35) f24 d24) (g24 : mg "_law_some" = some (.ref f24)) (B24 : Binds K d24 ["cup", "things"] [])
    (F25 : Fun K "_law_sort" "_law_sort" (topS 36) f25 d25) (g25 : mg "_law_sort" = some (.ref f25)) (B25 : Binds K d25 ["value"] [])
    (F26 : Fun K "_law_like" "_law_like" (topS 37) f26 d26) (g26 : mg "_law_like" = some (.ref f26)) (B26 : Binds K d26 ["one", "other"] [])
    (F27 : Fun K "_law_number" "_law_number" (topS 38) f27 d27) (g27 : mg "_law_number" = some (.ref f27)) (B27 : Binds K d27 ["sizes"] [])
    (F28 : Fun K "_law_sizes" "_law_sizes" (topS 39) f28 d28) (g28 : mg "_law_sizes" = some (.ref f28)) (B28 : Binds K d28 ["cup", "most"] [])
    (F29 : Fun K "_law_step" "_law_step" (topS 40) f29 d29) (g29 : mg "_law_step" = some (.ref f29)) (B29 : Binds K d29 ["cup"] [])
    (F30 : Fun K "_law_pairs" "_law_pairs" (topS 41) f30 d30) (g30 : mg "_law_pairs" = some (.ref f30)) (B30 : Binds K d30 ["cup", "sizes"] [])
    (F31 : Fun K "_law_walk" "_law_walk" (topS 42) f31 d31) (g31 : mg "_law_walk" = some (.ref f31)) (B31 : Binds K d31 ["cup", "most"] [])
    (F32 : Fun K "_law_digits" "_law_digits" (topS 43) f32 d32) (g32 : mg "_law_digits" = some (.ref f32)) (B32 : Binds K d32 ["sizes", "place"] [])
    (F33 : Fun K "_law_list" "_law_list" (topS 44) f33 d33) (g33 : mg "_law_list" = some (.ref f33)) (B33 : Binds K d33 ["walk"] [])
    (F34 : Fun K "_law_first" "_law_first" (topS 45) f34 d34) (g34 : mg "_law_first" = some (.ref f34)) (B34 : Binds K d34 ["numbers"] [])
    (F35 : Fun K "_law_is_row" "_law_is_row" (topS 46) f35 d35) (g35 : mg "_law_is_row" = some (.ref f35)) (B35 : Binds K d35 ["walk", "row"] [])
    (F36 : Fun K "_law_rows_right" "_law_rows_right" (topS 47) f36 d36) (g36 : mg "_law_rows_right" = some (.ref f36)) (B36 : Binds K d36 ["cup", "walk", "first"] [])
    (F37 : Fun K "_law_right" "_law_right" (topS 48) f37 d37) (g37 : mg "_law_right" = some (.ref f37)) (B37 : Binds K d37 ["cup", "walk"] [])
    (F38 : Fun K "_law_written_right" "_law_written_right" (topS 49) f38 d38) (g38 : mg "_law_written_right" = some (.ref f38)) (B38 : Binds K d38 [] [])
    (F39 : Fun K "law" "law" (topS 50) f39 d39) (g39 : mg "law" = some (.ref f39)) (B39 : Binds K d39 ["script"] [])
    (n_abs : mg "abs" = none)
    (n_all : mg "all" = none)
    (n_any : mg "any" = none)
    (n_bool : mg "bool" = none)
    (n_enumerate : mg "enumerate" = none)
    (n_int : mg "int" = none)
    (n_isinstance : mg "isinstance" = none)
    (n_len : mg "len" = none)
    (n_list : mg "list" = none)
    (n_max : mg "max" = none)
    (n_min : mg "min" = none)
    (n_range : mg "range" = none)
    (n_set : mg "set" = none)
    (n_sorted : mg "sorted" = none)
    (n_str : mg "str" = none)
    (n_sum : mg "sum" = none)
    (n_tuple : mg "tuple" = none)
    (n_zip : mg "zip" = none)
    (c_MOST_PAIRS : ∃ t, mg "MOST_PAIRS" = some (.int 16 t))
    (c_MOST_PLACES : ∃ t, mg "MOST_PLACES" = some (.int 5000 t))
    (e_InvalidNumber : mg "InvalidNumber" = some (.ref C1)) (x_InvalidNumber : PySem.W.excIn K C1 [.type "ValueError", .type "Exception", .type "BaseException", .type "object"] "ValueError.__new__" = true) (k_InvalidNumber : PySem.W.keepIn K (.ref C1) = true) (s_InvalidNumber : PySem.W.subIn K (.ref C1) (.type "BaseException") = some true) (t_InvalidNumber : PySem.W.typeIn K (.ref C1) = some (.type "type"))
    (e_InvalidWalk : mg "InvalidWalk" = some (.ref C2)) (x_InvalidWalk : PySem.W.excIn K C2 [.type "ValueError", .type "Exception", .type "BaseException", .type "object"] "ValueError.__new__" = true) (k_InvalidWalk : PySem.W.keepIn K (.ref C2) = true) (s_InvalidWalk : PySem.W.subIn K (.ref C2) (.type "BaseException") = some true) (t_InvalidWalk : PySem.W.typeIn K (.ref C2) = some (.type "type"))
    (hB : ∀ (s : Shared) (v : Value), BindsTo s d39 ⟨[v], []⟩ [("script", v)])
    : ∃ (fa : Nat → Addr) (fd : Nat → FuncData) (ec : Nat → Addr), Tx K mg fa fd ec ∧ fa 39 = f39 ∧ ∀ (s : Shared) (v : Value), BindsTo s (fd 39) ⟨[v], []⟩ [("script", v)] := by
  refine ⟨fun i => [f0, f1, f2, f3, f4, f5, f6, f7, f8, f9, f10, f11, f12, f13, f14, f15, f16, f17, f18, f19, f20, f21, f22, f23, f24, f25, f26, f27, f28, f29, f30, f31, f32, f33, f34, f35, f36, f37, f38, f39].getD i 0, fun i => [d0, d1, d2, d3, d4, d5, d6, d7, d8, d9, d10, d11, d12, d13, d14, d15, d16, d17, d18, d19, d20, d21, d22, d23, d24, d25, d26, d27, d28, d29, d30, d31, d32, d33, d34, d35, d36, d37, d38, d39].getD i d39, fun i => [0, C1, C2].getD i 0, ?_, rfl, hB⟩
  exact ⟨F0, g0, B0, F1, g1, B1, F2, g2, B2, F3, g3, B3, F4, g4, B4, F5, g5, B5, F6, g6, B6, F7, g7, B7, F8, g8, B8, F9, g9, B9, F10, g10, B10, F11, g11, B11, F12, g12, B12, F13, g13, B13, F14, g14, B14, F15, g15, B15, F16, g16, B16, F17, g17, B17, F18, g18, B18, F19, g19, B19, F20, g20, B20, F21, g21, B21, F22, g22, B22, F23, g23, B23, F24, g24, B24, F25, g25, B25, F26, g26, B26, F27, g27, B27, F28, g28, B28, F29, g29, B29, F30, g30, B30, F31, g31, B31, F32, g32, B32, F33, g33, B33, F34, g34, B34, F35, g35, B35, F36, g36, B36, F37, g37, B37, F38, g38, B38, F39, g39, B39, n_abs, n_all, n_any, n_bool, n_enumerate, n_int, n_isinstance, n_len, n_list, n_max, n_min, n_range, n_set, n_sorted, n_str, n_sum, n_tuple, n_zip, c_MOST_PAIRS, c_MOST_PLACES, e_InvalidNumber, x_InvalidNumber, k_InvalidNumber, s_InvalidNumber, t_InvalidNumber, e_InvalidWalk, x_InvalidWalk, k_InvalidWalk, s_InvalidWalk, t_InvalidWalk⟩
set_option maxHeartbeats 4000000 in
theorem all_mk {K : PySem.W.Frag} {h : Heap} {mg : Str → Option Value} (X : K.In h) (G : h.Ns mainGlobals mg)
    {f0 : Addr} {od0 an0 : Option Addr} {sl0 : Array (Option Value)} {oc0 kV0 dc0 pm0 cd0 ct0 : Value}
    {f1 : Addr} {od1 an1 : Option Addr} {sl1 : Array (Option Value)} {oc1 kV1 dc1 pm1 cd1 ct1 : Value}
    {f2 : Addr} {od2 an2 : Option Addr} {sl2 : Array (Option Value)} {oc2 kV2 dc2 pm2 cd2 ct2 : Value}
    {f3 : Addr} {od3 an3 : Option Addr} {sl3 : Array (Option Value)} {oc3 kV3 dc3 pm3 cd3 ct3 : Value}
    {f4 : Addr} {od4 an4 : Option Addr} {sl4 : Array (Option Value)} {oc4 kV4 dc4 pm4 cd4 ct4 : Value}
    {f5 : Addr} {od5 an5 : Option Addr} {sl5 : Array (Option Value)} {oc5 kV5 dc5 pm5 cd5 ct5 : Value}
    {f6 : Addr} {od6 an6 : Option Addr} {sl6 : Array (Option Value)} {oc6 kV6 dc6 pm6 cd6 ct6 : Value}
    {f7 : Addr} {od7 an7 : Option Addr} {sl7 : Array (Option Value)} {oc7 kV7 dc7 pm7 cd7 ct7 : Value}
    {f8 : Addr} {od8 an8 : Option Addr} {sl8 : Array (Option Value)} {oc8 kV8 dc8 pm8 cd8 ct8 : Value}
    {f9 : Addr} {od9 an9 : Option Addr} {sl9 : Array (Option Value)} {oc9 kV9 dc9 pm9 cd9 ct9 : Value}
    {f10 : Addr} {od10 an10 : Option Addr} {sl10 : Array (Option Value)} {oc10 kV10 dc10 pm10 cd10 ct10 : Value}
    {f11 : Addr} {od11 an11 : Option Addr} {sl11 : Array (Option Value)} {oc11 kV11 dc11 pm11 cd11 ct11 : Value}
    {f12 : Addr} {od12 an12 : Option Addr} {sl12 : Array (Option Value)} {oc12 kV12 dc12 pm12 cd12 ct12 : Value}
    {f13 : Addr} {od13 an13 : Option Addr} {sl13 : Array (Option Value)} {oc13 kV13 dc13 pm13 cd13 ct13 : Value}
    {f14 : Addr} {od14 an14 : Option Addr} {sl14 : Array (Option Value)} {oc14 kV14 dc14 pm14 cd14 ct14 : Value}
    {f15 : Addr} {od15 an15 : Option Addr} {sl15 : Array (Option Value)} {oc15 kV15 dc15 pm15 cd15 ct15 : Value}
    {f16 : Addr} {od16 an16 : Option Addr} {sl16 : Array (Option Value)} {oc16 kV16 dc16 pm16 cd16 ct16 : Value}
    {f17 : Addr} {od17 an17 : Option Addr} {sl17 : Array (Option Value)} {oc17 kV17 dc17 pm17 cd17 ct17 : Value}
    {f18 : Addr} {od18 an18 : Option Addr} {sl18 : Array (Option Value)} {oc18 kV18 dc18 pm18 cd18 ct18 : Value}
    {f19 : Addr} {od19 an19 : Option Addr} {sl19 : Array (Option Value)} {oc19 kV19 dc19 pm19 cd19 ct19 : Value}
    {f20 : Addr} {od20 an20 : Option Addr} {sl20 : Array (Option Value)} {oc20 kV20 dc20 pm20 cd20 ct20 : Value}
    {f21 : Addr} {od21 an21 : Option Addr} {sl21 : Array (Option Value)} {oc21 kV21 dc21 pm21 cd21 ct21 : Value}
    {f22 : Addr} {od22 an22 : Option Addr} {sl22 : Array (Option Value)} {oc22 kV22 dc22 pm22 cd22 ct22 : Value}
    {f23 : Addr} {od23 an23 : Option Addr} {sl23 : Array (Option Value)} {oc23 kV23 dc23 pm23 cd23 ct23 : Value}
    {f24 : Addr} {od24 an24 : Option Addr} {sl24 : Array (Option Value)} {oc24 kV24 dc24 pm24 cd24 ct24 : Value}
    {f25 : Addr} {od25 an25 : Option Addr} {sl25 : Array (Option Value)} {oc25 kV25 dc25 pm25 cd25 ct25 : Value}
    {f26 : Addr} {od26 an26 : Option Addr} {sl26 : Array (Option Value)} {oc26 kV26 dc26 pm26 cd26 ct26 : Value}
    {f27 : Addr} {od27 an27 : Option Addr} {sl27 : Array (Option Value)} {oc27 kV27 dc27 pm27 cd27 ct27 : Value}
    {f28 : Addr} {od28 an28 : Option Addr} {sl28 : Array (Option Value)} {oc28 kV28 dc28 pm28 cd28 ct28 : Value}
    {f29 : Addr} {od29 an29 : Option Addr} {sl29 : Array (Option Value)} {oc29 kV29 dc29 pm29 cd29 ct29 : Value}
    {f30 : Addr} {od30 an30 : Option Addr} {sl30 : Array (Option Value)} {oc30 kV30 dc30 pm30 cd30 ct30 : Value}
    {f31 : Addr} {od31 an31 : Option Addr} {sl31 : Array (Option Value)} {oc31 kV31 dc31 pm31 cd31 ct31 : Value}
    {f32 : Addr} {od32 an32 : Option Addr} {sl32 : Array (Option Value)} {oc32 kV32 dc32 pm32 cd32 ct32 : Value}
    {f33 : Addr} {od33 an33 : Option Addr} {sl33 : Array (Option Value)} {oc33 kV33 dc33 pm33 cd33 ct33 : Value}
    {f34 : Addr} {od34 an34 : Option Addr} {sl34 : Array (Option Value)} {oc34 kV34 dc34 pm34 cd34 ct34 : Value}
    {f35 : Addr} {od35 an35 : Option Addr} {sl35 : Array (Option Value)} {oc35 kV35 dc35 pm35 cd35 ct35 : Value}
    {f36 : Addr} {od36 an36 : Option Addr} {sl36 : Array (Option Value)} {oc36 kV36 dc36 pm36 cd36 ct36 : Value}
    {f37 : Addr} {od37 an37 : Option Addr} {sl37 : Array (Option Value)} {oc37 kV37 dc37 pm37 cd37 ct37 : Value}
    {f38 : Addr} {od38 an38 : Option Addr} {sl38 : Array (Option Value)} {oc38 kV38 dc38 pm38 cd38 ct38 : Value}
    {f39 : Addr} {od39 an39 : Option Addr} {sl39 : Array (Option Value)} {oc39 kV39 dc39 pm39 cd39 ct39 : Value}
    {t_MOST_PAIRS : Tok}
    {t_MOST_PLACES : Tok}
    {C1 : Addr}
    {C2 : Addr}
    (a0 : PySem.W.nsIn K mainGlobals "is_integer" = some (some (.ref f0))) (l0 : K.lookup f0 = some ⟨oc0, od0, .func (PySem.W.fnOf "is_integer" "is_integer" (defArgs (topS 5)) (defBody (topS 5)) (defScope (topS 5)) .none kV0 dc0 pm0 an0 cd0 ct0), sl0⟩) (c0 : PySem.W.codeIn K cd0 "is_integer" = true) (k0 : PySem.W.keepIn K (.ref f0) = true)
    (a1 : PySem.W.nsIn K mainGlobals "is_number" = some (some (.ref f1))) (l1 : K.lookup f1 = some ⟨oc1, od1, .func (PySem.W.fnOf "is_number" "is_number" (defArgs (topS 6)) (defBody (topS 6)) (defScope (topS 6)) .none kV1 dc1 pm1 an1 cd1 ct1), sl1⟩) (c1 : PySem.W.codeIn K cd1 "is_number" = true) (k1 : PySem.W.keepIn K (.ref f1) = true)
    (a2 : PySem.W.nsIn K mainGlobals "is_tuple_of" = some (some (.ref f2))) (l2 : K.lookup f2 = some ⟨oc2, od2, .func (PySem.W.fnOf "is_tuple_of" "is_tuple_of" (defArgs (topS 7)) (defBody (topS 7)) (defScope (topS 7)) .none kV2 dc2 pm2 an2 cd2 ct2), sl2⟩) (c2 : PySem.W.codeIn K cd2 "is_tuple_of" = true) (k2 : PySem.W.keepIn K (.ref f2) = true)
    (a3 : PySem.W.nsIn K mainGlobals "number_in" = some (some (.ref f3))) (l3 : K.lookup f3 = some ⟨oc3, od3, .func (PySem.W.fnOf "number_in" "number_in" (defArgs (topS 11)) (defBody (topS 11)) (defScope (topS 11)) .none kV3 dc3 pm3 an3 cd3 ct3), sl3⟩) (c3 : PySem.W.codeIn K cd3 "number_in" = true) (k3 : PySem.W.keepIn K (.ref f3) = true)
    (a4 : PySem.W.nsIn K mainGlobals "sizes_in" = some (some (.ref f4))) (l4 : K.lookup f4 = some ⟨oc4, od4, .func (PySem.W.fnOf "sizes_in" "sizes_in" (defArgs (topS 12)) (defBody (topS 12)) (defScope (topS 12)) .none kV4 dc4 pm4 an4 cd4 ct4), sl4⟩) (c4 : PySem.W.codeIn K cd4 "sizes_in" = true) (k4 : PySem.W.keepIn K (.ref f4) = true)
    (a5 : PySem.W.nsIn K mainGlobals "fits_shape" = some (some (.ref f5))) (l5 : K.lookup f5 = some ⟨oc5, od5, .func (PySem.W.fnOf "fits_shape" "fits_shape" (defArgs (topS 13)) (defBody (topS 13)) (defScope (topS 13)) .none kV5 dc5 pm5 an5 cd5 ct5), sl5⟩) (c5 : PySem.W.codeIn K cd5 "fits_shape" = true) (k5 : PySem.W.keepIn K (.ref f5) = true)
    (a6 : PySem.W.nsIn K mainGlobals "fits_pairs" = some (some (.ref f6))) (l6 : K.lookup f6 = some ⟨oc6, od6, .func (PySem.W.fnOf "fits_pairs" "fits_pairs" (defArgs (topS 14)) (defBody (topS 14)) (defScope (topS 14)) .none kV6 dc6 pm6 an6 cd6 ct6), sl6⟩) (c6 : PySem.W.codeIn K cd6 "fits_pairs" = true) (k6 : PySem.W.keepIn K (.ref f6) = true)
    (a7 : PySem.W.nsIn K mainGlobals "fits_walk" = some (some (.ref f7))) (l7 : K.lookup f7 = some ⟨oc7, od7, .func (PySem.W.fnOf "fits_walk" "fits_walk" (defArgs (topS 15)) (defBody (topS 15)) (defScope (topS 15)) .none kV7 dc7 pm7 an7 cd7 ct7), sl7⟩) (c7 : PySem.W.codeIn K cd7 "fits_walk" = true) (k7 : PySem.W.keepIn K (.ref f7) = true)
    (a8 : PySem.W.nsIn K mainGlobals "need_walk" = some (some (.ref f8))) (l8 : K.lookup f8 = some ⟨oc8, od8, .func (PySem.W.fnOf "need_walk" "need_walk" (defArgs (topS 16)) (defBody (topS 16)) (defScope (topS 16)) .none kV8 dc8 pm8 an8 cd8 ct8), sl8⟩) (c8 : PySem.W.codeIn K cd8 "need_walk" = true) (k8 : PySem.W.keepIn K (.ref f8) = true)
    (a9 : PySem.W.nsIn K mainGlobals "digits_in" = some (some (.ref f9))) (l9 : K.lookup f9 = some ⟨oc9, od9, .func (PySem.W.fnOf "digits_in" "digits_in" (defArgs (topS 17)) (defBody (topS 17)) (defScope (topS 17)) .none kV9 dc9 pm9 an9 cd9 ct9), sl9⟩) (c9 : PySem.W.codeIn K cd9 "digits_in" = true) (k9 : PySem.W.keepIn K (.ref f9) = true)
    (a10 : PySem.W.nsIn K mainGlobals "list_in" = some (some (.ref f10))) (l10 : K.lookup f10 = some ⟨oc10, od10, .func (PySem.W.fnOf "list_in" "list_in" (defArgs (topS 19)) (defBody (topS 19)) (defScope (topS 19)) .none kV10 dc10 pm10 an10 cd10 ct10), sl10⟩) (c10 : PySem.W.codeIn K cd10 "list_in" = true) (k10 : PySem.W.keepIn K (.ref f10) = true)
    (a11 : PySem.W.nsIn K mainGlobals "need_integer" = some (some (.ref f11))) (l11 : K.lookup f11 = some ⟨oc11, od11, .func (PySem.W.fnOf "need_integer" "need_integer" (defArgs (topS 21)) (defBody (topS 21)) (defScope (topS 21)) .none kV11 dc11 pm11 an11 cd11 ct11), sl11⟩) (c11 : PySem.W.codeIn K cd11 "need_integer" = true) (k11 : PySem.W.keepIn K (.ref f11) = true)
    (a12 : PySem.W.nsIn K mainGlobals "places_by_number" = some (some (.ref f12))) (l12 : K.lookup f12 = some ⟨oc12, od12, .func (PySem.W.fnOf "places_by_number" "places_by_number" (defArgs (topS 22)) (defBody (topS 22)) (defScope (topS 22)) .none kV12 dc12 pm12 an12 cd12 ct12), sl12⟩) (c12 : PySem.W.codeIn K cd12 "places_by_number" = true) (k12 : PySem.W.keepIn K (.ref f12) = true)
    (a13 : PySem.W.nsIn K mainGlobals "first_in" = some (some (.ref f13))) (l13 : K.lookup f13 = some ⟨oc13, od13, .func (PySem.W.fnOf "first_in" "first_in" (defArgs (topS 23)) (defBody (topS 23)) (defScope (topS 23)) .none kV13 dc13 pm13 an13 cd13 ct13), sl13⟩) (c13 : PySem.W.codeIn K cd13 "first_in" = true) (k13 : PySem.W.keepIn K (.ref f13) = true)
    (a14 : PySem.W.nsIn K mainGlobals "meets_itself" = some (some (.ref f14))) (l14 : K.lookup f14 = some ⟨oc14, od14, .func (PySem.W.fnOf "meets_itself" "meets_itself" (defArgs (topS 24)) (defBody (topS 24)) (defScope (topS 24)) .none kV14 dc14 pm14 an14 cd14 ct14), sl14⟩) (c14 : PySem.W.codeIn K cd14 "meets_itself" = true) (k14 : PySem.W.keepIn K (.ref f14) = true)
    (a15 : PySem.W.nsIn K mainGlobals "first_places" = some (some (.ref f15))) (l15 : K.lookup f15 = some ⟨oc15, od15, .func (PySem.W.fnOf "first_places" "first_places" (defArgs (topS 25)) (defBody (topS 25)) (defScope (topS 25)) .none kV15 dc15 pm15 an15 cd15 ct15), sl15⟩) (c15 : PySem.W.codeIn K cd15 "first_places" = true) (k15 : PySem.W.keepIn K (.ref f15) = true)
    (a16 : PySem.W.nsIn K mainGlobals "is_meeting" = some (some (.ref f16))) (l16 : K.lookup f16 = some ⟨oc16, od16, .func (PySem.W.fnOf "is_meeting" "is_meeting" (defArgs (topS 26)) (defBody (topS 26)) (defScope (topS 26)) .none kV16 dc16 pm16 an16 cd16 ct16), sl16⟩) (c16 : PySem.W.codeIn K cd16 "is_meeting" = true) (k16 : PySem.W.keepIn K (.ref f16) = true)
    (a17 : PySem.W.nsIn K mainGlobals "difference_row" = some (some (.ref f17))) (l17 : K.lookup f17 = some ⟨oc17, od17, .func (PySem.W.fnOf "difference_row" "difference_row" (defArgs (topS 27)) (defBody (topS 27)) (defScope (topS 27)) .none kV17 dc17 pm17 an17 cd17 ct17), sl17⟩) (c17 : PySem.W.codeIn K cd17 "difference_row" = true) (k17 : PySem.W.keepIn K (.ref f17) = true)
    (a18 : PySem.W.nsIn K mainGlobals "is_difference_row" = some (some (.ref f18))) (l18 : K.lookup f18 = some ⟨oc18, od18, .func (PySem.W.fnOf "is_difference_row" "is_difference_row" (defArgs (topS 28)) (defBody (topS 28)) (defScope (topS 28)) .none kV18 dc18 pm18 an18 cd18 ct18), sl18⟩) (c18 : PySem.W.codeIn K cd18 "is_difference_row" = true) (k18 : PySem.W.keepIn K (.ref f18) = true)
    (a19 : PySem.W.nsIn K mainGlobals "count_unlike" = some (some (.ref f19))) (l19 : K.lookup f19 = some ⟨oc19, od19, .func (PySem.W.fnOf "count_unlike" "count_unlike" (defArgs (topS 29)) (defBody (topS 29)) (defScope (topS 29)) .none kV19 dc19 pm19 an19 cd19 ct19), sl19⟩) (c19 : PySem.W.codeIn K cd19 "count_unlike" = true) (k19 : PySem.W.keepIn K (.ref f19) = true)
    (a20 : PySem.W.nsIn K mainGlobals "places_of" = some (some (.ref f20))) (l20 : K.lookup f20 = some ⟨oc20, od20, .func (PySem.W.fnOf "places_of" "places_of" (defArgs (topS 30)) (defBody (topS 30)) (defScope (topS 30)) .none kV20 dc20 pm20 an20 cd20 ct20), sl20⟩) (c20 : PySem.W.codeIn K cd20 "places_of" = true) (k20 : PySem.W.keepIn K (.ref f20) = true)
    (a21 : PySem.W.nsIn K mainGlobals "most_told" = some (some (.ref f21))) (l21 : K.lookup f21 = some ⟨oc21, od21, .func (PySem.W.fnOf "most_told" "most_told" (defArgs (topS 31)) (defBody (topS 31)) (defScope (topS 31)) .none kV21 dc21 pm21 an21 cd21 ct21), sl21⟩) (c21 : PySem.W.codeIn K cd21 "most_told" = true) (k21 : PySem.W.keepIn K (.ref f21) = true)
    (a22 : PySem.W.nsIn K mainGlobals "_law_cup" = some (some (.ref f22))) (l22 : K.lookup f22 = some ⟨oc22, od22, .func (PySem.W.fnOf "_law_cup" "_law_cup" (defArgs (topS 33)) (defBody (topS 33)) (defScope (topS 33)) .none kV22 dc22 pm22 an22 cd22 ct22), sl22⟩) (c22 : PySem.W.codeIn K cd22 "_law_cup" = true) (k22 : PySem.W.keepIn K (.ref f22) = true)
    (a23 : PySem.W.nsIn K mainGlobals "_law_roll" = some (some (.ref f23))) (l23 : K.lookup f23 = some ⟨oc23, od23, .func (PySem.W.fnOf "_law_roll" "_law_roll" (defArgs (topS 34)) (defBody (topS 34)) (defScope (topS 34)) .none kV23 dc23 pm23 an23 cd23 ct23), sl23⟩) (c23 : PySem.W.codeIn K cd23 "_law_roll" = true) (k23 : PySem.W.keepIn K (.ref f23) = true)
    (a24 : PySem.W.nsIn K mainGlobals "_law_some" = some (some (.ref f24))) (l24 : K.lookup f24 = some ⟨oc24, od24, .func (PySem.W.fnOf "_law_some" "_law_some" (defArgs (topS 35)) (defBody (topS 35)) (defScope (topS 35)) .none kV24 dc24 pm24 an24 cd24 ct24), sl24⟩) (c24 : PySem.W.codeIn K cd24 "_law_some" = true) (k24 : PySem.W.keepIn K (.ref f24) = true)
    (a25 : PySem.W.nsIn K mainGlobals "_law_sort" = some (some (.ref f25))) (l25 : K.lookup f25 = some ⟨oc25, od25, .func (PySem.W.fnOf "_law_sort" "_law_sort" (defArgs (topS 36)) (defBody (topS 36)) (defScope (topS 36)) .none kV25 dc25 pm25 an25 cd25 ct25), sl25⟩) (c25 : PySem.W.codeIn K cd25 "_law_sort" = true) (k25 : PySem.W.keepIn K (.ref f25) = true)
    (a26 : PySem.W.nsIn K mainGlobals "_law_like" = some (some (.ref f26))) (l26 : K.lookup f26 = some ⟨oc26, od26, .func (PySem.W.fnOf "_law_like" "_law_like" (defArgs (topS 37)) (defBody (topS 37)) (defScope (topS 37)) .none kV26 dc26 pm26 an26 cd26 ct26), sl26⟩) (c26 : PySem.W.codeIn K cd26 "_law_like" = true) (k26 : PySem.W.keepIn K (.ref f26) = true)
    (a27 : PySem.W.nsIn K mainGlobals "_law_number" = some (some (.ref f27))) (l27 : K.lookup f27 = some ⟨oc27, od27, .func (PySem.W.fnOf "_law_number" "_law_number" (defArgs (topS 38)) (defBody (topS 38)) (defScope (topS 38)) .none kV27 dc27 pm27 an27 cd27 ct27), sl27⟩) (c27 : PySem.W.codeIn K cd27 "_law_number" = true) (k27 : PySem.W.keepIn K (.ref f27) = true)
    (a28 : PySem.W.nsIn K mainGlobals "_law_sizes" = some (some (.ref f28))) (l28 : K.lookup f28 = some ⟨oc28, od28, .func (PySem.W.fnOf "_law_sizes" "_law_sizes" (defArgs (topS 39)) (defBody (topS 39)) (defScope (topS 39)) .none kV28 dc28 pm28 an28 cd28 ct28), sl28⟩) (c28 : PySem.W.codeIn K cd28 "_law_sizes" = true) (k28 : PySem.W.keepIn K (.ref f28) = true)
    (a29 : PySem.W.nsIn K mainGlobals "_law_step" = some (some (.ref f29))) (l29 : K.lookup f29 = some ⟨oc29, od29, .func (PySem.W.fnOf "_law_step" "_law_step" (defArgs (topS 40)) (defBody (topS 40)) (defScope (topS 40)) .none kV29 dc29 pm29 an29 cd29 ct29), sl29⟩) (c29 : PySem.W.codeIn K cd29 "_law_step" = true) (k29 : PySem.W.keepIn K (.ref f29) = true)
    (a30 : PySem.W.nsIn K mainGlobals "_law_pairs" = some (some (.ref f30))) (l30 : K.lookup f30 = some ⟨oc30, od30, .func (PySem.W.fnOf "_law_pairs" "_law_pairs" (defArgs (topS 41)) (defBody (topS 41)) (defScope (topS 41)) .none kV30 dc30 pm30 an30 cd30 ct30), sl30⟩) (c30 : PySem.W.codeIn K cd30 "_law_pairs" = true) (k30 : PySem.W.keepIn K (.ref f30) = true)
    (a31 : PySem.W.nsIn K mainGlobals "_law_walk" = some (some (.ref f31))) (l31 : K.lookup f31 = some ⟨oc31, od31, .func (PySem.W.fnOf "_law_walk" "_law_walk" (defArgs (topS 42)) (defBody (topS 42)) (defScope (topS 42)) .none kV31 dc31 pm31 an31 cd31 ct31), sl31⟩) (c31 : PySem.W.codeIn K cd31 "_law_walk" = true) (k31 : PySem.W.keepIn K (.ref f31) = true)
    (a32 : PySem.W.nsIn K mainGlobals "_law_digits" = some (some (.ref f32))) (l32 : K.lookup f32 = some ⟨oc32, od32, .func (PySem.W.fnOf "_law_digits" "_law_digits" (defArgs (topS 43)) (defBody (topS 43)) (defScope (topS 43)) .none kV32 dc32 pm32 an32 cd32 ct32), sl32⟩) (c32 : PySem.W.codeIn K cd32 "_law_digits" = true) (k32 : PySem.W.keepIn K (.ref f32) = true)
    (a33 : PySem.W.nsIn K mainGlobals "_law_list" = some (some (.ref f33))) (l33 : K.lookup f33 = some ⟨oc33, od33, .func (PySem.W.fnOf "_law_list" "_law_list" (defArgs (topS 44)) (defBody (topS 44)) (defScope (topS 44)) .none kV33 dc33 pm33 an33 cd33 ct33), sl33⟩) (c33 : PySem.W.codeIn K cd33 "_law_list" = true) (k33 : PySem.W.keepIn K (.ref f33) = true)
    (a34 : PySem.W.nsIn K mainGlobals "_law_first" = some (some (.ref f34))) (l34 : K.lookup f34 = some ⟨oc34, od34, .func (PySem.W.fnOf "_law_first" "_law_first" (defArgs (topS 45)) (defBody (topS 45)) (defScope (topS 45)) .none kV34 dc34 pm34 an34 cd34 ct34), sl34⟩) (c34 : PySem.W.codeIn K cd34 "_law_first" = true) (k34 : PySem.W.keepIn K (.ref f34) = true)
    (a35 : PySem.W.nsIn K mainGlobals "_law_is_row" = some (some (.ref f35))) (l35 : K.lookup f35 = some ⟨oc35, od35, .func (PySem.W.fnOf "_law_is_row" "_law_is_row" (defArgs (topS 46)) (defBody (topS 46)) (defScope (topS 46)) .none kV35 dc35 pm35 an35 cd35 ct35), sl35⟩) (c35 : PySem.W.codeIn K cd35 "_law_is_row" = true) (k35 : PySem.W.keepIn K (.ref f35) = true)
    (a36 : PySem.W.nsIn K mainGlobals "_law_rows_right" = some (some (.ref f36))) (l36 : K.lookup f36 = some ⟨oc36, od36, .func (PySem.W.fnOf "_law_rows_right" "_law_rows_right" (defArgs (topS 47)) (defBody (topS 47)) (defScope (topS 47)) .none kV36 dc36 pm36 an36 cd36 ct36), sl36⟩) (c36 : PySem.W.codeIn K cd36 "_law_rows_right" = true) (k36 : PySem.W.keepIn K (.ref f36) = true)
    (a37 : PySem.W.nsIn K mainGlobals "_law_right" = some (some (.ref f37))) (l37 : K.lookup f37 = some ⟨oc37, od37, .func (PySem.W.fnOf "_law_right" "_law_right" (defArgs (topS 48)) (defBody (topS 48)) (defScope (topS 48)) .none kV37 dc37 pm37 an37 cd37 ct37), sl37⟩) (c37 : PySem.W.codeIn K cd37 "_law_right" = true) (k37 : PySem.W.keepIn K (.ref f37) = true)
    (a38 : PySem.W.nsIn K mainGlobals "_law_written_right" = some (some (.ref f38))) (l38 : K.lookup f38 = some ⟨oc38, od38, .func (PySem.W.fnOf "_law_written_right" "_law_written_right" (defArgs (topS 49)) (defBody (topS 49)) (defScope (topS 49)) .none kV38 dc38 pm38 an38 cd38 ct38), sl38⟩) (c38 : PySem.W.codeIn K cd38 "_law_written_right" = true) (k38 : PySem.W.keepIn K (.ref f38) = true)
    (a39 : PySem.W.nsIn K mainGlobals "law" = some (some (.ref f39))) (l39 : K.lookup f39 = some ⟨oc39, od39, .func (PySem.W.fnOf "law" "law" (defArgs (topS 50)) (defBody (topS 50)) (defScope (topS 50)) .none kV39 dc39 pm39 an39 cd39 ct39), sl39⟩) (c39 : PySem.W.codeIn K cd39 "law" = true) (k39 : PySem.W.keepIn K (.ref f39) = true)
    (n_abs : PySem.W.nsIn K mainGlobals "abs" = some none)
    (n_all : PySem.W.nsIn K mainGlobals "all" = some none)
    (n_any : PySem.W.nsIn K mainGlobals "any" = some none)
    (n_bool : PySem.W.nsIn K mainGlobals "bool" = some none)
    (n_enumerate : PySem.W.nsIn K mainGlobals "enumerate" = some none)
    (n_int : PySem.W.nsIn K mainGlobals "int" = some none)
    (n_isinstance : PySem.W.nsIn K mainGlobals "isinstance" = some none)
    (n_len : PySem.W.nsIn K mainGlobals "len" = some none)
    (n_list : PySem.W.nsIn K mainGlobals "list" = some none)
    (n_max : PySem.W.nsIn K mainGlobals "max" = some none)
    (n_min : PySem.W.nsIn K mainGlobals "min" = some none)
    (n_range : PySem.W.nsIn K mainGlobals "range" = some none)
    (n_set : PySem.W.nsIn K mainGlobals "set" = some none)
    (n_sorted : PySem.W.nsIn K mainGlobals "sorted" = some none)
    (n_str : PySem.W.nsIn K mainGlobals "str" = some none)
    (n_sum : PySem.W.nsIn K mainGlobals "sum" = some none)
    (n_tuple : PySem.W.nsIn K mainGlobals "tuple" = some none)
    (n_zip : PySem.W.nsIn K mainGlobals "zip" = some none)
    (c_MOST_PAIRS : PySem.W.nsIn K mainGlobals "MOST_PAIRS" = some (some (.int 16 t_MOST_PAIRS)))
    (c_MOST_PLACES : PySem.W.nsIn K mainGlobals "MOST_PLACES" = some (some (.int 5000 t_MOST_PLACES)))
    (e_InvalidNumber : PySem.W.nsIn K mainGlobals "InvalidNumber" = some (some (.ref C1))) (x_InvalidNumber : PySem.W.excIn K C1 [.type "ValueError", .type "Exception", .type "BaseException", .type "object"] "ValueError.__new__" = true) (k_InvalidNumber : PySem.W.keepIn K (.ref C1) = true) (s_InvalidNumber : PySem.W.subIn K (.ref C1) (.type "BaseException") = some true) (t_InvalidNumber : PySem.W.typeIn K (.ref C1) = some (.type "type"))
    (e_InvalidWalk : PySem.W.nsIn K mainGlobals "InvalidWalk" = some (some (.ref C2))) (x_InvalidWalk : PySem.W.excIn K C2 [.type "ValueError", .type "Exception", .type "BaseException", .type "object"] "ValueError.__new__" = true) (k_InvalidWalk : PySem.W.keepIn K (.ref C2) = true) (s_InvalidWalk : PySem.W.subIn K (.ref C2) (.type "BaseException") = some true) (t_InvalidWalk : PySem.W.typeIn K (.ref C2) = some (.type "type"))
    {fl : Addr} (hmg : mg "law" = some (.ref fl))
    : ∃ (fa : Nat → Addr) (fd : Nat → FuncData) (ec : Nat → Addr), Tx K mg fa fd ec ∧ fa 39 = fl ∧ ∀ (s : Shared) (v : Value), BindsTo s (fd 39) ⟨[v], []⟩ [("script", v)] := by
  have efl : f39 = fl := by
    have q := hmg.symm.trans (PySem.W.mg_of X G a39)
    injection q with q; injection q with q; exact q.symm
  have F0 := fun_mk (st := topS 5) l0 c0 k0
  have B0 := F0.binds (ps := ["value"]) fun _ _ _ _ _ _ us hl => match us, hl with | [_], _ => rfl
  have F1 := fun_mk (st := topS 6) l1 c1 k1
  have B1 := F1.binds (ps := ["value", "low", "high"]) fun _ _ _ _ _ _ us hl => match us, hl with | [_, _, _], _ => rfl
  have F2 := fun_mk (st := topS 7) l2 c2 k2
  have B2 := F2.binds (ps := ["value", "low", "high"]) fun _ _ _ _ _ _ us hl => match us, hl with | [_, _, _], _ => rfl
  have F3 := fun_mk (st := topS 11) l3 c3 k3
  have B3 := F3.binds (ps := ["sizes"]) fun _ _ _ _ _ _ us hl => match us, hl with | [_], _ => rfl
  have F4 := fun_mk (st := topS 12) l4 c4 k4
  have B4 := F4.binds (ps := ["pairs"]) fun _ _ _ _ _ _ us hl => match us, hl with | [_], _ => rfl
  have F5 := fun_mk (st := topS 13) l5 c5 k5
  have B5 := F5.binds (ps := ["value"]) fun _ _ _ _ _ _ us hl => match us, hl with | [_], _ => rfl
  have F6 := fun_mk (st := topS 14) l6 c6 k6
  have B6 := F6.binds (ps := ["value"]) fun _ _ _ _ _ _ us hl => match us, hl with | [_], _ => rfl
  have F7 := fun_mk (st := topS 15) l7 c7 k7
  have B7 := F7.binds (ps := ["value"]) fun _ _ _ _ _ _ us hl => match us, hl with | [_], _ => rfl
  have F8 := fun_mk (st := topS 16) l8 c8 k8
  have B8 := F8.binds (ps := ["value"]) fun _ _ _ _ _ _ us hl => match us, hl with | [_], _ => rfl
  have F9 := fun_mk (st := topS 17) l9 c9 k9
  have B9 := F9.binds (ps := ["sizes", "place"]) fun _ _ _ _ _ _ us hl => match us, hl with | [_, _], _ => rfl
  have F10 := fun_mk (st := topS 19) l10 c10 k10
  have B10 := F10.binds (ps := ["walk"]) fun _ _ _ _ _ _ us hl => match us, hl with | [_], _ => rfl
  have F11 := fun_mk (st := topS 21) l11 c11 k11
  have B11 := F11.binds (ps := ["value"]) fun _ _ _ _ _ _ us hl => match us, hl with | [_], _ => rfl
  have F12 := fun_mk (st := topS 22) l12 c12 k12
  have B12 := F12.binds (ps := ["numbers"]) fun _ _ _ _ _ _ us hl => match us, hl with | [_], _ => rfl
  have F13 := fun_mk (st := topS 23) l13 c13 k13
  have B13 := F13.binds (ps := ["numbers"]) fun _ _ _ _ _ _ us hl => match us, hl with | [_], _ => rfl
  have F14 := fun_mk (st := topS 24) l14 c14 k14
  have B14 := F14.binds (ps := ["walk"]) fun _ _ _ _ _ _ us hl => match us, hl with | [_], _ => rfl
  have F15 := fun_mk (st := topS 25) l15 c15 k15
  have B15 := F15.binds (ps := ["walk"]) fun _ _ _ _ _ _ us hl => match us, hl with | [_], _ => rfl
  have F16 := fun_mk (st := topS 26) l16 c16 k16
  have B16 := F16.binds (ps := ["walk", "value"]) fun _ _ _ _ _ _ us hl => match us, hl with | [_, _], _ => rfl
  have F17 := fun_mk (st := topS 27) l17 c17 k17
  have B17 := F17.binds (ps := ["walk"]) fun _ _ _ _ _ _ us hl => match us, hl with | [_], _ => rfl
  have F18 := fun_mk (st := topS 28) l18 c18 k18
  have B18 := F18.binds (ps := ["walk", "value"]) fun _ _ _ _ _ _ us hl => match us, hl with | [_, _], _ => rfl
  have F19 := fun_mk (st := topS 29) l19 c19 k19
  have B19 := F19.binds (ps := ["walk"]) fun _ _ _ _ _ _ us hl => match us, hl with | [_], _ => rfl
  have F20 := fun_mk (st := topS 30) l20 c20 k20
  have B20 := F20.binds (ps := ["walk", "number"]) fun _ _ _ _ _ _ us hl => match us, hl with | [_, _], _ => rfl
  have F21 := fun_mk (st := topS 31) l21 c21 k21
  have B21 := F21.binds (ps := ["walk"]) fun _ _ _ _ _ _ us hl => match us, hl with | [_], _ => rfl
  have F22 := fun_mk (st := topS 33) l22 c22 k22
  have B22 := F22.binds (ps := ["script"]) fun _ _ _ _ _ _ us hl => match us, hl with | [_], _ => rfl
  have F23 := fun_mk (st := topS 34) l23 c23 k23
  have B23 := F23.binds (ps := ["cup", "many"]) fun _ _ _ _ _ _ us hl => match us, hl with | [_, _], _ => rfl
  have F24 := fun_mk (st := topS 35) l24 c24 k24
  have B24 := F24.binds (ps := ["cup", "things"]) fun _ _ _ _ _ _ us hl => match us, hl with | [_, _], _ => rfl
  have F25 := fun_mk (st := topS 36) l25 c25 k25
  have B25 := F25.binds (ps := ["value"]) fun _ _ _ _ _ _ us hl => match us, hl with | [_], _ => rfl
  have F26 := fun_mk (st := topS 37) l26 c26 k26
  have B26 := F26.binds (ps := ["one", "other"]) fun _ _ _ _ _ _ us hl => match us, hl with | [_, _], _ => rfl
  have F27 := fun_mk (st := topS 38) l27 c27 k27
  have B27 := F27.binds (ps := ["sizes"]) fun _ _ _ _ _ _ us hl => match us, hl with | [_], _ => rfl
  have F28 := fun_mk (st := topS 39) l28 c28 k28
  have B28 := F28.binds (ps := ["cup", "most"]) fun _ _ _ _ _ _ us hl => match us, hl with | [_, _], _ => rfl
  have F29 := fun_mk (st := topS 40) l29 c29 k29
  have B29 := F29.binds (ps := ["cup"]) fun _ _ _ _ _ _ us hl => match us, hl with | [_], _ => rfl
  have F30 := fun_mk (st := topS 41) l30 c30 k30
  have B30 := F30.binds (ps := ["cup", "sizes"]) fun _ _ _ _ _ _ us hl => match us, hl with | [_, _], _ => rfl
  have F31 := fun_mk (st := topS 42) l31 c31 k31
  have B31 := F31.binds (ps := ["cup", "most"]) fun _ _ _ _ _ _ us hl => match us, hl with | [_, _], _ => rfl
  have F32 := fun_mk (st := topS 43) l32 c32 k32
  have B32 := F32.binds (ps := ["sizes", "place"]) fun _ _ _ _ _ _ us hl => match us, hl with | [_, _], _ => rfl
  have F33 := fun_mk (st := topS 44) l33 c33 k33
  have B33 := F33.binds (ps := ["walk"]) fun _ _ _ _ _ _ us hl => match us, hl with | [_], _ => rfl
  have F34 := fun_mk (st := topS 45) l34 c34 k34
  have B34 := F34.binds (ps := ["numbers"]) fun _ _ _ _ _ _ us hl => match us, hl with | [_], _ => rfl
  have F35 := fun_mk (st := topS 46) l35 c35 k35
  have B35 := F35.binds (ps := ["walk", "row"]) fun _ _ _ _ _ _ us hl => match us, hl with | [_, _], _ => rfl
  have F36 := fun_mk (st := topS 47) l36 c36 k36
  have B36 := F36.binds (ps := ["cup", "walk", "first"]) fun _ _ _ _ _ _ us hl => match us, hl with | [_, _, _], _ => rfl
  have F37 := fun_mk (st := topS 48) l37 c37 k37
  have B37 := F37.binds (ps := ["cup", "walk"]) fun _ _ _ _ _ _ us hl => match us, hl with | [_, _], _ => rfl
  have F38 := fun_mk (st := topS 49) l38 c38 k38
  have B38 := F38.binds (ps := []) fun _ _ _ _ _ _ us hl => match us, hl with | [], _ => rfl
  have F39 := fun_mk (st := topS 50) l39 c39 k39
  have B39 := F39.binds (ps := ["script"]) fun _ _ _ _ _ _ us hl => match us, hl with | [_], _ => rfl
  rw [← efl]
  exact tx_mk F0 (PySem.W.mg_of X G a0) B0 F1 (PySem.W.mg_of X G a1) B1 F2 (PySem.W.mg_of X G a2) B2 F3 (PySem.W.mg_of X G a3) B3 F4 (PySem.W.mg_of X G a4) B4 F5 (PySem.W.mg_of X G a5) B5 F6 (PySem.W.mg_of X G a6) B6 F7 (PySem.W.mg_of X G a7) B7 F8 (PySem.W.mg_of X G a8) B8 F9 (PySem.W.mg_of X G a9) B9 F10 (PySem.W.mg_of X G a10) B10 F11 (PySem.W.mg_of X G a11) B11 F12 (PySem.W.mg_of X G a12) B12 F13 (PySem.W.mg_of X G a13) B13 F14 (PySem.W.mg_of X G a14) B14 F15 (PySem.W.mg_of X G a15) B15 F16 (PySem.W.mg_of X G a16) B16 F17 (PySem.W.mg_of X G a17) B17 F18 (PySem.W.mg_of X G a18) B18 F19 (PySem.W.mg_of X G a19) B19 F20 (PySem.W.mg_of X G a20) B20 F21 (PySem.W.mg_of X G a21) B21 F22 (PySem.W.mg_of X G a22) B22 F23 (PySem.W.mg_of X G a23) B23 F24 (PySem.W.mg_of X G a24) B24 F25 (PySem.W.mg_of X G a25) B25 F26 (PySem.W.mg_of X G a26) B26 F27 (PySem.W.mg_of X G a27) B27 F28 (PySem.W.mg_of X G a28) B28 F29 (PySem.W.mg_of X G a29) B29 F30 (PySem.W.mg_of X G a30) B30 F31 (PySem.W.mg_of X G a31) B31 F32 (PySem.W.mg_of X G a32) B32 F33 (PySem.W.mg_of X G a33) B33 F34 (PySem.W.mg_of X G a34) B34 F35 (PySem.W.mg_of X G a35) B35 F36 (PySem.W.mg_of X G a36) B36 F37 (PySem.W.mg_of X G a37) B37 F38 (PySem.W.mg_of X G a38) B38 F39 (PySem.W.mg_of X G a39) B39 (PySem.W.mg_none_of X G n_abs) (PySem.W.mg_none_of X G n_all) (PySem.W.mg_none_of X G n_any) (PySem.W.mg_none_of X G n_bool) (PySem.W.mg_none_of X G n_enumerate) (PySem.W.mg_none_of X G n_int) (PySem.W.mg_none_of X G n_isinstance) (PySem.W.mg_none_of X G n_len) (PySem.W.mg_none_of X G n_list) (PySem.W.mg_none_of X G n_max) (PySem.W.mg_none_of X G n_min) (PySem.W.mg_none_of X G n_range) (PySem.W.mg_none_of X G n_set) (PySem.W.mg_none_of X G n_sorted) (PySem.W.mg_none_of X G n_str) (PySem.W.mg_none_of X G n_sum) (PySem.W.mg_none_of X G n_tuple) (PySem.W.mg_none_of X G n_zip) ⟨_, PySem.W.mg_of X G c_MOST_PAIRS⟩ ⟨_, PySem.W.mg_of X G c_MOST_PLACES⟩ (PySem.W.mg_of X G e_InvalidNumber) x_InvalidNumber k_InvalidNumber s_InvalidNumber t_InvalidNumber (PySem.W.mg_of X G e_InvalidWalk) x_InvalidWalk k_InvalidWalk s_InvalidWalk t_InvalidWalk fun s v => .of_eq rfl
end K47

namespace K47
open PySem PySem.Spec PyProof.Rows L2 DL
theorem written : m__law_written_right [] none = .ok (.bl true) none := by kernel_rfl
end K47

namespace K47
open PySem PySem.Spec PyProof.Rows L2 DL
theorem p_is_integer (i : Int) (c : C) : m_is_integer [.int i] c = .ok (.bl true) c := rfl
theorem p_is_number (i lo hi : Int) (c : C) : m_is_number [.int i, .int lo, .int hi] c = .ok (.bl (decide (lo ≤ i) && decide (i ≤ hi))) c :=
  Eq.trans (def_rt (seq_rt (ret_of (eAnd_of (call_of (aC_of (v_of rfl) rfl) (p_is_integer i c)) fun _ => ch_of (v_of rfl) (v_of rfl) rfl (fun _ => v_of rfl) fun _ => rfl)))) rfl
theorem p_is_tuple_of (ds : List D) (lo hi : Int) (c : C) : m_is_tuple_of [.tup ds, .int lo, .int hi] c = .ok (.bl (decide (lo ≤ ds.length) && decide ((ds.length : Int) ≤ hi))) c :=
  Eq.trans (def_rt (seq_rt (ret_of (eAnd_of (k := true) (e1_of (v_of rfl) rfl) fun _ => ch_of (v_of rfl) (e1_of (v_of rfl) rfl) rfl (fun _ => v_of rfl) fun _ => rfl)))) rfl
theorem p_is_tuple_lst (ds : List D) (lo hi : D) (c : C) : m_is_tuple_of [.lst ds, lo, hi] c = .ok (.bl false) c := rfl
theorem p_number_go (c : C) (x : D) : ∀ (ns : List Int) (a : Int), (∀ n ∈ ns, -(2 ^ 64) < n ∧ n < 2 ^ 64) →
    forGo (bN 2) (sForget [2] (sSeq (sSet 1 (e2 (dInt2 iMul) (eV 1) (eV 2))) sNx)) (ns.map D.int) [some x, some (.int a), none] c = .ok (.nx [some x, some (.int (ns.foldl (· * ·) a)), none]) c
  | [], a, _ => rfl
  | n :: ns, a, h => by
    have hm : iMul a n = some (.int (a * n)) := by unfold iMul; rw [mulOk_r (h n List.mem_cons_self).1 (h n List.mem_cons_self).2]
    have h1 : sForget [2] (sSeq (sSet 1 (e2 (dInt2 iMul) (eV 1) (eV 2))) sNx) [some x, some (.int a), some (.int n)] c = .ok (.nx [some x, some (.int (a * n)), none]) c :=
      Eq.trans (forget_nx (seq_nx (set_of (e2_of (v_of rfl) (v_of rfl) (show dInt2 iMul (.int a) (.int n) = _ from hm))) rfl)) rfl
    rw [List.map_cons]
    unfold forGo
    show ((sForget [2] (sSeq (sSet 1 (e2 (dInt2 iMul) (eV 1) (eV 2))) sNx) [some x, some (.int a), some (.int n)] c).bind _) = _
    rw [h1, bind_ok]
    exact p_number_go c x ns (a * n) fun m hm => h m (List.mem_cons_of_mem _ hm)
theorem p_number_in (ns : List Int) (c : C) (h : ∀ n ∈ ns, -(2 ^ 64) < n ∧ n < 2 ^ 64) : m_number_in [.tup (ns.map D.int)] c = .ok (.int (ns.foldl (· * ·) 1)) c :=
  def_rt (seq_nx (set_of rfl) (seq_nx (for_of (seqI_of (v_of rfl) rfl) (p_number_go c _ ns 1 h)) (seq_rt (ret_of (v_of rfl)))))
/-! ### a walk: its first integer, its pairs -/
def prN (p : Nat × Int) : D := .tup [.int p.1, .int p.2]
def wD (s : Int) (ps : List (Nat × Int)) : D := .tup [.int s, .tup (ps.map prN)]
def szD (ps : List (Nat × Int)) : List D := ps.map fun p => D.int p.1
structure Good (ps : List (Nat × Int)) : Prop where
  len : ps.length ≤ 16
  pos : ∀ p ∈ ps, 1 ≤ p.1 ∧ p.1 ≤ 5000
  prod : nprod (ps.map (·.1)) ≤ 5000
theorem Good.p0 {ps : List (Nat × Int)} (h : Good ps) : ∀ p ∈ ps, 0 < p.1 := fun p hp => (h.pos p hp).1
theorem szD_eq (ps : List (Nat × Int)) : szD ps = (((ps.map (·.1)).map fun (n : Nat) => (n : Int))).map D.int := by
  unfold szD; rw [List.map_map, List.map_map]; rfl
section
variable {ps : List (Nat × Int)} (G : Good ps) (s : Int) (c : C)
include G
theorem p_sizes_in : m_sizes_in [.tup (ps.map prN)] c = .ok (.tup (szD ps)) c :=
  def_rt (seq_rt (ret_of (e1_of (lc_all prN (fun p => .int p.1) (seqI_of (v_of rfl) rfl) (room_le (by have := G.len; omega)) fun p _ => ⟨_, rfl, v_of rfl⟩) rfl)))
theorem p_number_sz : m_number_in [.tup (szD ps)] c = .ok (.int (nprod (ps.map (·.1)) : Nat)) c := by
  rw [szD_eq, p_number_in _ c fun n hn => ?_, foldl_prod, Int.one_mul]
  obtain ⟨m, hm, rfl⟩ := List.mem_map.mp hn
  obtain ⟨p, hp, rfl⟩ := List.mem_map.mp hm
  have := G.pos p hp
  omega
theorem p_fits_shape : m_fits_shape [.tup (szD ps)] c = .ok (.bl true) c := by
  have hl : (szD ps).length = ps.length := by unfold szD; rw [List.length_map]
  have h1 : m_is_tuple_of [.tup (szD ps), .int 0, .int 16] c = .ok (.bl true) c := by
    rw [p_is_tuple_of, hl, decide_eq_true (by omega), decide_eq_true (by have := G.len; omega)]; rfl
  have h2 : ps.all (fun p => decide ((1 : Int) ≤ (p.1 : Nat)) && decide (((p.1 : Nat) : Int) ≤ 5000)) = true := by
    rw [List.all_eq_true]
    intro p hp
    have := G.pos p hp
    rw [decide_eq_true (by omega), decide_eq_true (by omega)]; rfl
  have h3 : dAll (.lst (ps.map fun p => D.bl (decide ((1 : Int) ≤ (p.1 : Nat)) && decide (((p.1 : Nat) : Int) ≤ 5000)))) = some (.bl true) := by rw [dAll_gen, h2]
  have h4 : dLe (.int (nprod (ps.map (·.1)) : Nat)) (.int 5000) = some (.bl true) := by
    show some (D.bl (decide _)) = _
    rw [decide_eq_true (by have := G.prod; omega)]
  exact def_rt (seq_nx (if_f (tOr_of (k := false) (j := false) (tNot_of (k := true) (eT_of (call_of (aC_of (v_of rfl) (aC_of rfl (aC_of rfl rfl))) h1))) fun _ => tNot_of (k := true) (eT_of (e1_of
    (lc_all (fun p : Nat × Int => D.int p.1) (fun p => D.bl (decide ((1 : Int) ≤ (p.1 : Nat)) && decide (((p.1 : Nat) : Int) ≤ 5000))) (seqI_of (v_of rfl) rfl) (room_le (by have := G.len; omega)) fun p _ => ⟨_, rfl, call_of (aC_of (v_of rfl) (aC_of rfl (aC_of rfl rfl))) (p_is_number _ _ _ _)⟩) h3))) rfl)
    (seq_rt (ret_of (e2_of (call_of (aC_of (v_of rfl) rfl) (p_number_sz G c)) rfl h4))))
theorem p_fits_pairs : m_fits_pairs [.tup (ps.map prN)] c = .ok (.bl true) c := by
  have h1 : m_is_tuple_of [.tup (ps.map prN), .int 0, .int 16] c = .ok (.bl true) c := by
    rw [p_is_tuple_of, List.length_map, decide_eq_true (by omega), decide_eq_true (by have := G.len; omega)]; rfl
  have h2 : ∀ p : Nat × Int, m_is_tuple_of [prN p, .int 2, .int 2] c = .ok (.bl true) c := fun p => (p_is_tuple_of _ _ _ _).trans rfl
  have all : ∀ xs : List (Nat × Int), dAll (.lst (xs.map fun _ => D.bl true)) = some (.bl true) := fun xs => by
    rw [dAll_gen (fun _ => true)]
    rw [List.all_eq_true.mpr fun _ _ => rfl]
  have r : room ps.length = true := room_le (by have := G.len; omega)
  exact def_rt (seq_nx (if_f (tOr_of (k := false) (j := false) (tNot_of (k := true) (eT_of (call_of (aC_of (v_of rfl) (aC_of rfl (aC_of rfl rfl))) h1))) fun _ => tNot_of (k := true) (eT_of (e1_of
    (lc_all prN (fun _ => D.bl true) (seqI_of (v_of rfl) rfl) r fun p _ => ⟨_, rfl, call_of (aC_of (v_of rfl) (aC_of rfl (aC_of rfl rfl))) (h2 p)⟩) (all ps)))) rfl)
    (seq_rt (ret_of (eAnd_of (k := true) (j := true) (e1_of (lc_all prN (fun _ => D.bl true) (seqI_of (v_of rfl) rfl) r fun p _ => ⟨_, rfl, call_of (aC_of (v_of rfl) rfl) (p_is_integer _ _)⟩) (all ps)) fun _ =>
      call_of (aC_of (call_of (aC_of (v_of rfl) rfl) (p_sizes_in G c)) rfl) (p_fits_shape G c)))))
theorem p_fits_walk : m_fits_walk [wD s ps] c = .ok (.bl true) c :=
  def_rt (seq_rt (ret_of (eAnd_of (k := true) (j := true) (call_of (aC_of (v_of rfl) (aC_of rfl (aC_of rfl rfl))) ((p_is_tuple_of _ _ _ _).trans rfl)) fun _ =>
    eAnd_of (k := true) (j := true) (call_of (aC_of (e2_of (v_of rfl) rfl rfl) rfl) (p_is_integer _ _)) fun _ => call_of (aC_of (e2_of (v_of rfl) rfl rfl) rfl) (p_fits_pairs G c))))
theorem p_need_walk : m_need_walk [wD s ps] c = .ok .non c :=
  def_nx (seq_nx (if_f (tNot_of (k := true) (eT_of (call_of (aC_of (v_of rfl) rfl) (p_fits_walk G s c)))) rfl) rfl)
end
end K47

namespace K47
open PySem PySem.Spec PyProof.Rows L2 DL
/-! ### the list of a walk -/
theorem dInt2_eq (f : Int → Int → Option D) (a b : Int) : dInt2 f (.int a) (.int b) = f a b := rfl
abbrev iD (ns : List Int) : List D := ns.map D.int
theorem mul_lr (a t : Int) (h : -(2 ^ 64) < a) (h' : a < 2 ^ 64) : iMul a t = some (.int (a * t)) := by unfold iMul; rw [mulOk_l h h']
theorem mul_l (a t : Int) (h : -(2 ^ 64) < a) (h' : a < 2 ^ 64) : dInt2 iMul (.int a) (.int t) = some (.int (a * t)) := mul_lr a t h h'
theorem nat_lt (d : Nat) (h : d ≤ 5000) : -(2 ^ 64) < (d : Int) ∧ (d : Int) < 2 ^ 64 := by omega
theorem mul_nat (d : Nat) (t : Int) (h : d ≤ 5000) : dInt2 iMul (.int (d : Int)) (.int t) = some (.int ((d : Int) * t)) := mul_l _ _ (nat_lt d h).1 (nat_lt d h).2
def inner47 : Sx := (sForget [5] (sSeq (sExt 4 (eLc (iSeq (eV 1)) [6] (bN 6) DL.tYes (e2 dCat (eV 6) (e2 (dInt2 iMul) (eV 5) (eV 3))))) sNx))
theorem p_list_inner (w : D) (found : List Int) (m t : Int) (c : C) (hf : found.length ≤ 100000) : ∀ (ds : List Nat) (longer : List Int), (∀ d ∈ ds, d ≤ 5000) → longer.length + ds.length * found.length ≤ 100000 →
    forGo (bN 5) inner47 (ds.map fun (i : Nat) => D.int i) [some w, some (.lst (iD found)), some (.int m), some (.int t), some (.lst (iD longer)), none, none] c =
      .ok (.nx [some w, some (.lst (iD found)), some (.int m), some (.int t), some (.lst (iD (longer ++ ds.flatMap fun (d : Nat) => found.map fun x => x + (d : Int) * t))), none, none]) c
  | [], longer, _, _ => by rw [List.flatMap_nil, List.append_nil]; rfl
  | d :: ds, longer, h, hz => by
    have hd := h d List.mem_cons_self
    have hz' : longer.length + found.length + ds.length * found.length ≤ 100000 := by
      rw [List.length_cons, Nat.succ_mul] at hz; omega
    have hm := mul_nat d t hd
    have h1 : inner47 [some w, some (.lst (iD found)), some (.int m), some (.int t), some (.lst (iD longer)), some (.int (d : Int)), none] c =
        .ok (.nx [some w, some (.lst (iD found)), some (.int m), some (.int t), some (.lst (iD longer ++ found.map fun x => D.int (x + (d : Int) * t))), none, none]) c :=
      Eq.trans (forget_nx (seq_nx (ext_of rfl (lc_all (fun x : Int => D.int x) (fun x => D.int (x + (d : Int) * t)) (seqI_of (v_of rfl) rfl) (room_le (by omega)) fun x _ => ⟨_, rfl, e2_of (v_of rfl) (e2_of (v_of rfl) (v_of rfl) hm) rfl⟩)
        (room_le (by rw [List.length_map, List.length_map]; omega))) rfl)) rfl
    rw [List.map_cons]
    unfold forGo
    show (inner47 [some w, some (.lst (iD found)), some (.int m), some (.int t), some (.lst (iD longer)), some (.int (d : Int)), none] c).bind _ = _
    rw [h1, bind_ok]
    have e : iD longer ++ (found.map fun x => D.int (x + (d : Int) * t)) = iD (longer ++ found.map fun x => x + (d : Int) * t) := by
      show List.map D.int longer ++ _ = List.map D.int (longer ++ _)
      rw [List.map_append, List.map_map]; rfl
    rw [e]
    have ih := p_list_inner w found m t c hf ds (longer ++ found.map fun x => x + (d : Int) * t) (fun x hx => h x (List.mem_cons_of_mem _ hx)) (by rw [List.length_append, List.length_map]; omega)
    rw [List.flatMap_cons, ← List.append_assoc]
    exact ih
end K47

namespace K47
open PySem PySem.Spec PyProof.Rows L2 DL
theorem grow_all_len : ∀ (ps : List (Nat × Int)) (found : List Int), (ps.foldl grow found).length = nprod (ps.map (·.1)) * found.length
  | [], found => by simp [nprod]
  | p :: ps, found => by
    rw [List.foldl_cons, grow_all_len ps, grow_len, List.map_cons, nprod, Nat.mul_comm p.1 (nprod _), Nat.mul_assoc]
theorem nprod_pos : ∀ ms : List Nat, (∀ m ∈ ms, 0 < m) → 0 < nprod ms
  | [], _ => Nat.one_pos
  | m :: ms, h => Nat.mul_pos (h m List.mem_cons_self) (nprod_pos ms fun x hx => h x (List.mem_cons_of_mem _ hx))
theorem p_list_go (w : D) (c : C) : ∀ (ps : List (Nat × Int)) (found : List Int), (∀ p ∈ ps, 1 ≤ p.1 ∧ p.1 ≤ 5000) → nprod (ps.map (·.1)) * found.length ≤ 5000 →
    forGo (bT (bsC (bN 2) (bsC (bN 3) bsN))) (sForget [2, 3, 4, 5] (sSeq (sSet 4 (eLst aN)) (sSeq (sFor (iRange1 (eV 2)) (bN 5) inner47) (sSeq (sMove 1 4) sNx)))) (ps.map prN) [some w, some (.lst (iD found)), none, none, none, none, none] c =
      .ok (.nx [some w, some (.lst (iD (ps.foldl grow found))), none, none, none, none, none]) c
  | [], found, _, _ => rfl
  | p :: ps, found, h, hz => by
    have hp := h p List.mem_cons_self
    have pos : 0 < nprod (ps.map (·.1)) := nprod_pos _ fun m hm => by
      obtain ⟨q, hq, rfl⟩ := List.mem_map.mp hm
      exact (h q (List.mem_cons_of_mem _ hq)).1
    have hz1 : nprod (ps.map (·.1)) * (grow found p).length ≤ 5000 := by
      rw [grow_len]
      rw [List.map_cons, nprod] at hz
      rw [← Nat.mul_assoc, Nat.mul_comm (nprod _) p.1]; exact hz
    have hg : p.1 * found.length ≤ 5000 := by
      rw [grow_len] at hz1
      exact Nat.le_trans (Nat.le_mul_of_pos_left _ pos) hz1
    have hf : found.length ≤ 5000 := Nat.le_trans (Nat.le_mul_of_pos_left _ hp.1) hg
    have h1 := p_list_inner w found (p.1 : Nat) p.2 c (by omega) (List.range p.1) [] (fun d hd => by have := List.mem_range.mp hd; omega) (by rw [List.length_range, List.length_nil]; omega)
    have h2 : (sForget [2, 3, 4, 5] (sSeq (sSet 4 (eLst aN)) (sSeq (sFor (iRange1 (eV 2)) (bN 5) inner47) (sSeq (sMove 1 4) sNx)))) [some w, some (.lst (iD found)), some (.int (p.1 : Nat)), some (.int p.2), none, none, none] c =
        .ok (.nx [some w, some (.lst (iD (grow found p))), none, none, none, none, none]) c := by
      refine Eq.trans (forget_nx (seq_nx (set_of (lst_of rfl)) (seq_nx (for_of (rng_of (v_of rfl) ⟨by omega, by omega⟩) ((congrArg (fun l => forGo (bN 5) inner47 l _ c) (rng_map p.1)).trans h1)) rfl))) rfl
    rw [List.map_cons]
    unfold forGo
    show ((sForget [2, 3, 4, 5] (sSeq (sSet 4 (eLst aN)) (sSeq (sFor (iRange1 (eV 2)) (bN 5) inner47) (sSeq (sMove 1 4) sNx)))) [some w, some (.lst (iD found)), some (.int (p.1 : Nat)), some (.int p.2), none, none, none] c).bind _ = _
    rw [h2, bind_ok]
    exact p_list_go w c ps (grow found p) (fun q hq => h q (List.mem_cons_of_mem _ hq)) hz1
section
variable {ps : List (Nat × Int)} (G : Good ps) (s : Int) (c : C)
include G
theorem p_list_in : m_list_in [wD s ps] c = .ok (.tup (iD (lst s ps))) c := by
  rw [← lst_grow s ps G.p0]
  exact def_rt (seq_nx (set_of (lst_of (aC_of (e2_of (v_of rfl) rfl rfl) rfl))) (seq_nx (for_of (seqI_of (e2_of (v_of rfl) rfl rfl) rfl) (p_list_go _ c ps [s] G.pos (by have := G.prod; simpa using this))) (seq_rt (ret_of (e1_of (v_of rfl) rfl)))))
end
theorem lst_len (s : Int) (ps : List (Nat × Int)) : (lst s ps).length = nprod (ps.map (·.1)) := by unfold lst; rw [List.length_map, List.length_range]
/-! the law's own -/
theorem p__law_number (ms : List Nat) (c : C) (h : ∀ m ∈ ms, m ≤ 5000) (mk : List D → D) (hmk : ∀ l, dItems (mk l) = some l) : m__law_number [mk (ms.map fun (n : Nat) => D.int n)] c = .ok (.int (nprod ms : Nat)) c := by
  have e : (ms.map fun (n : Nat) => D.int n) = (ms.map fun (n : Nat) => (n : Int)).map D.int := by rw [List.map_map]; rfl
  have h' : ∀ n ∈ ms.map fun (n : Nat) => (n : Int), -(2 ^ 64) < n ∧ n < 2 ^ 64 := fun n hn => by
    obtain ⟨m, hm, rfl⟩ := List.mem_map.mp hn
    have := h m hm
    omega
  have q := p_number_go c (mk (ms.map fun (n : Nat) => D.int n)) _ 1 h'
  rw [foldl_prod, Int.one_mul, ← e] at q
  exact def_rt (seq_nx (set_of rfl) (seq_nx (for_of (seqI_of (v_of rfl) (hmk _)) q) (seq_rt (ret_of (v_of rfl)))))
theorem p_digits_go (x : D) (c : C) (f : Ex) (hf : ∀ (k m : Nat) (ds : List D) (c : C), f [some x, some (.int (k : Int)), some (.lst ds), some (.int (m : Int))] c = .ok (.int (k : Int)) c) : ∀ (ms : List Nat) (k : Nat) (out : List D), (∀ m ∈ ms, 1 ≤ m ∧ m ≤ 5000) → out.length + ms.length ≤ 1000 →
    ∃ k' : Int, forGo (bN 3) (sForget [3] (sSeq (sApp 2 (e2 (dInt2 iMod) f (eV 3))) (sSeq (sSet 1 (e2 (dInt2 iDiv) (eV 1) (eV 3))) sNx))) (ms.map fun (n : Nat) => D.int n) [some x, some (.int (k : Int)), some (.lst out), none] c =
      .ok (.nx [some x, some (.int k'), some (.lst (out ++ (digs ms k).map fun (n : Nat) => D.int n)), none]) c
  | [], k, out, _, _ => ⟨k, by rw [digs, List.map_nil, List.append_nil]; rfl⟩
  | m :: ms, k, out, h, hz => by
    have hm := h m List.mem_cons_self
    have z1 : iMod (k : Int) (m : Int) = some (.int ((k % m : Nat) : Int)) := by
      unfold iMod
      rw [decide_eq_true (by omega), Int.natCast_emod]
    have hl : (m : Int).natAbs.log2 < 9000 := by
      rw [Int.natAbs_natCast]
      exact Nat.lt_trans ((Nat.log2_lt (by omega)).mpr (Nat.lt_of_le_of_lt hm.2 (by decide : 5000 < 2 ^ 13))) (by decide)
    have z2 : iDiv (k : Int) (m : Int) = some (.int ((k / m : Nat) : Int)) := by
      unfold iDiv
      rw [decide_eq_true ⟨by omega, hl⟩, Int.natCast_ediv]
    have q1 : dInt2 iMod (.int (k : Int)) (.int (m : Int)) = some (.int ((k % m : Nat) : Int)) := z1
    have q2 : dInt2 iDiv (.int (k : Int)) (.int (m : Int)) = some (.int ((k / m : Nat) : Int)) := z2
    have h1 : (sForget [3] (sSeq (sApp 2 (e2 (dInt2 iMod) f (eV 3))) (sSeq (sSet 1 (e2 (dInt2 iDiv) (eV 1) (eV 3))) sNx))) [some x, some (.int (k : Int)), some (.lst out), some (.int (m : Int))] c =
        .ok (.nx [some x, some (.int ((k / m : Nat) : Int)), some (.lst (out ++ [D.int ((k % m : Nat) : Int)])), none]) c :=
      Eq.trans (forget_nx (seq_nx (app_of rfl (e2_of (hf k m out c) (v_of rfl) q1) (room_le (by rw [List.length_cons] at hz; omega))) (seq_nx (set_of (e2_of (v_of rfl) (v_of rfl) q2)) rfl))) rfl
    obtain ⟨k', ih⟩ := p_digits_go x c f hf ms (k / m) (out ++ [D.int ((k % m : Nat) : Int)]) (fun q hq => h q (List.mem_cons_of_mem _ hq)) (by rw [List.length_append]; rw [List.length_cons] at hz; simp; omega)
    refine ⟨k', ?_⟩
    rw [List.map_cons]
    unfold forGo
    show ((sForget [3] (sSeq (sApp 2 (e2 (dInt2 iMod) f (eV 3))) (sSeq (sSet 1 (e2 (dInt2 iDiv) (eV 1) (eV 3))) sNx))) [some x, some (.int (k : Int)), some (.lst out), some (.int (m : Int))] c).bind _ = _
    rw [h1, bind_ok]
    rw [digs, List.map_cons]
    rw [List.append_assoc] at ih
    exact ih
abbrev nD (ns : List Nat) : List D := ns.map fun (n : Nat) => D.int n
theorem p_digits_in (ms : List Nat) (k : Nat) (c : C) (h : ∀ m ∈ ms, 1 ≤ m ∧ m ≤ 5000) (hz : ms.length ≤ 1000) : m_digits_in [.tup (nD ms), .int (k : Int)] c = .ok (.tup (nD (digs ms k))) c := by
  obtain ⟨k', q⟩ := p_digits_go (.tup (nD ms)) c (eV 1) (fun _ _ _ _ => rfl) ms k [] h (by simpa using hz)
  exact def_rt (seq_nx (set_of (lst_of rfl)) (seq_nx (for_of (seqI_of (v_of rfl) rfl) q) (seq_rt (ret_of (e1_of (v_of rfl) rfl)))))
theorem p__law_digits (ms : List Nat) (k : Nat) (c : C) (h : ∀ m ∈ ms, 1 ≤ m ∧ m ≤ 5000) (hz : ms.length ≤ 1000) : m__law_digits [.lst (nD ms), .int (k : Int)] c = .ok (.tup (nD (digs ms k))) c := by
  obtain ⟨k', q⟩ := p_digits_go (.lst (nD ms)) c (e1 dToInt (eV 1)) (fun _ _ _ _ => rfl) ms k [] h (by simpa using hz)
  exact def_rt (seq_nx (set_of (lst_of rfl)) (seq_nx (for_of (seqI_of (v_of rfl) rfl) q) (seq_rt (ret_of (e1_of (v_of rfl) rfl)))))
end K47

namespace K47
open PySem PySem.Spec PyProof.Rows L2 DL
theorem digs_lt : ∀ (ms : List Nat) (k : Nat), (∀ m ∈ ms, 1 ≤ m ∧ m ≤ 5000) → ∀ d ∈ digs ms k, d ≤ 5000
  | [], _, _, d, h => by cases h
  | m :: ms, k, hm, d, h => by
    rcases List.mem_cons.mp (show d ∈ (k % m) :: digs ms (k / m) from h) with e | e
    · have := hm m List.mem_cons_self
      have := Nat.mod_lt k (show m > 0 by omega)
      omega
    · exact digs_lt ms _ (fun x hx => hm x (List.mem_cons_of_mem _ hx)) d e
theorem Good.ms {ps : List (Nat × Int)} (G : Good ps) : ∀ m ∈ ps.map (·.1), 1 ≤ m ∧ m ≤ 5000 := fun m hm => by
  obtain ⟨p, hp, rfl⟩ := List.mem_map.mp hm
  exact G.pos p hp
theorem szD_n (ps : List (Nat × Int)) : szD ps = nD (ps.map (·.1)) := by unfold szD; rw [nD, List.map_map]; rfl
def valE : Ex := (e2 dCat (e2 dIx (eV 0) (eC (.int 0))) (e1 dSum (eLc (iZip (eCall m__law_digits (aC (eV 1) (aC (eV 5) aN))) (e2 dIx (eV 0) (eC (.int 1)))) [6, 7] (bT (bsC (bN 6) (bsC (bN 7) bsN))) DL.tYes (e2 (dInt2 iMul) (eV 6) (e2 dIx (eV 7) (eC (.int 1)))))))
theorem p_valE {ps : List (Nat × Int)} (G : Good ps) (s : Int) (c : C) (out : D) (k : Nat) : valE [some (wD s ps), some (.lst (szD ps)), some out, none, none, some (.int (k : Int)), none, none] c = .ok (.int (s + val ps k)) c := by
  have h1 : m__law_digits [.lst (szD ps), .int (k : Int)] c = .ok (.tup (nD (digs (ps.map (·.1)) k))) c := by
    rw [szD_n]
    exact p__law_digits _ k c G.ms (by rw [List.length_map]; have := G.len; omega)
  have hz : dZip2 (.tup (nD (digs (ps.map (·.1)) k))) (.tup (ps.map prN)) = some (((digs (ps.map (·.1)) k).zip ps).map fun q => D.raw [.int (q.1 : Nat), prN q.2]) :=
    congrArg some (dZip_gen (fun (n : Nat) => D.int n) prN _ _)
  exact e2_of (e2_of (v_of rfl) rfl rfl) (e1_of (lc_all (fun q : Nat × (Nat × Int) => D.raw [.int (q.1 : Nat), prN q.2]) (fun q => .int ((q.1 : Int) * q.2.2)) (zip_of (call_of (aC_of (v_of rfl) (aC_of (v_of rfl) rfl)) h1) (e2_of (v_of rfl) rfl rfl) hz)
    (room_le (by rw [List.length_zip]; have := G.len; omega)) fun q hq => ⟨_, rfl, e2_of (v_of rfl) (e2_of (v_of rfl) rfl rfl) (mul_nat q.1 q.2.2 (digs_lt _ k G.ms _ (List.of_mem_zip hq).1))⟩) (dSum_gen _ _)) rfl
theorem p__law_list_go {ps : List (Nat × Int)} (G : Good ps) (s : Int) (c : C) : ∀ (ks : List Nat) (out : List Int), out.length + ks.length ≤ 100000 →
    forGo (bN 5) (sForget [5] (sSeq (sApp 2 valE) sNx)) (nD ks) [some (wD s ps), some (.lst (szD ps)), some (.lst (iD out)), none, none, none, none, none] c =
      .ok (.nx [some (wD s ps), some (.lst (szD ps)), some (.lst (iD (out ++ ks.map fun k => s + val ps k))), none, none, none, none, none]) c
  | [], out, _ => by rw [List.map_nil, List.append_nil]; rfl
  | k :: ks, out, h => by
    have e : iD out ++ [D.int (s + val ps k)] = iD (out ++ [s + val ps k]) := by
      show List.map D.int out ++ _ = List.map D.int (out ++ _)
      rw [List.map_append]; rfl
    have ih := p__law_list_go G s c ks (out ++ [s + val ps k]) (by rw [List.length_append]; rw [List.length_cons] at h; simp; omega)
    rw [List.append_assoc] at ih
    rw [← e] at ih
    exact forGo_cons rfl (Eq.trans (forget_nx (seq_nx (app_of rfl (p_valE G s c _ k) (room_le (by rw [List.length_map]; rw [List.length_cons] at h; omega))) rfl)) rfl) ih
theorem p__law_list {ps : List (Nat × Int)} (G : Good ps) (s : Int) (c : C) : m__law_list [wD s ps] c = .ok (.tup (iD (lst s ps))) c := by
  have q := p__law_list_go G s c (List.range (nprod (ps.map (·.1)))) [] (by rw [List.length_range]; have := G.prod; simp; omega)
  have h1 : m__law_number [.lst (szD ps)] c = .ok (.int (nprod (ps.map (·.1)) : Nat)) c := by
    rw [szD_n]
    exact p__law_number _ c (fun m hm => (G.ms m hm).2) D.lst fun _ => rfl
  exact def_rt (seq_nx (par_of (lc_all prN (fun p => .int (p.1 : Nat)) (seqI_of (e2_of (v_of rfl) rfl rfl) rfl) (room_le (by have := G.len; omega)) fun p _ => ⟨_, rfl, v_of rfl⟩) (lst_of rfl))
    (seq_nx (for_of (rng_of (call_of (aC_of (v_of rfl) rfl) h1) ⟨by omega, by have := G.prod; omega⟩) ((congrArg (fun l => forGo (bN 5) (sForget [5] (sSeq (sApp 2 valE) sNx)) l _ c) (rng_map _)).trans q)) (seq_rt (ret_of (e1_of (v_of rfl) rfl)))))
end K47

namespace K47
open PySem PySem.Spec PyProof.Rows L2 DL
def optD : Option (Nat × Nat) → D
  | none => .non
  | some q => .tup [.int (q.1 : Nat), .int (q.2 : Nat)]
theorem ix_nat {ns : List Int} {p : Nat} (hp : p < ns.length) : dIx (.tup (iD ns)) (.int (p : Nat)) = some (.int (ns.getD p 0)) := by
  show atI (iD ns) (p : Int) = _
  rw [atI_nat _ _ (by rw [List.length_map]; exact hp), List.getElem?_map, List.getD_eq_getElem?_getD, List.getElem?_eq_getElem hp]; rfl
theorem sl_from (ds : List D) (k : Nat) : dSl (.tup ds) (some ((k : Nat) : Int)) none = some (.tup (ds.drop k)) := by
  show some (D.tup (DL.cutD ds (some ((k : Nat) : Int)) none)) = _
  unfold DL.cutD
  rw [HT.sIx_nat, HT.sIx_none]
  congr 2
  rw [List.take_of_length_le (by rw [List.length_drop]; exact Nat.le_refl _)]
  rcases Nat.le_total k ds.length with h | h
  · rw [Nat.min_eq_left h]
  · rw [Nat.min_eq_right h, List.drop_length, List.drop_eq_nil_of_le h]
theorem inV_int (v : Int) : ∀ l : List Int, inV (.int v) (l.map V.int) = decide (v ∈ l)
  | [] => rfl
  | a :: l => by
    have ih := inV_int v l
    unfold inV at ih ⊢
    rw [List.map_cons, List.any_cons, ih]
    show ((a == v) || decide (v ∈ l)) = _
    by_cases h : a = v
    · subst h; simp
    · have e : (v ∈ a :: l) = (v ∈ l) := propext (List.mem_cons.trans ⟨fun q => q.elim (fun z => absurd z.symm h) id, .inr⟩)
      rw [beq_eq_false_iff_ne.mpr h, Bool.false_or]
      simp only [e]
theorem flat_ints (l : List Int) : (iD l).all flatD = true := by
  rw [List.all_eq_true]
  intro d hd
  obtain ⟨n, _, rfl⟩ := List.mem_map.mp hd
  rfl
theorem in_int (v : Int) (l : List Int) : dInA (.int v) (.tup (iD l)) = some (.bl (decide (v ∈ l))) := by
  have h : dInF (.int v) (.tup (iD l)) = some (decide (v ∈ l)) := by
    show (match flatD (.int v) && (iD l).all flatD with | true => some (inV (fV (.int v)) ((iD l).map fV)) | false => none) = _
    rw [flat_ints, ← inV_int v l]
    have e : (iD l).map fV = l.map V.int := by rw [List.map_map]; rfl
    rw [e]; rfl
  show (match (dInF (.int v) (.tup (iD l))).map D.bl with | some r => some r | none => _) = _
  rw [h]; rfl
theorem index_int {v : Int} {l : List Int} (h : v ∈ l) : dIndex (.tup (iD l)) (.int v) = some (.int (l.idxOf v : Nat)) := by
  show ((dInts (iD l)).bind fun ns => match decide (v ∈ ns) with | true => some (D.int (ns.idxOf v : Nat)) | false => none) = _
  rw [dInts_map, Option.bind_some, decide_eq_true h]
def firstBody : Sx := (sForget [1] (sSeq (sIf (eT (e2 dInA (e2 dIx (eV 0) (eV 1)) (eSl dSl (eV 0) (oS (e2 dCat (eV 1) (eC (.int 1)))) oN))) (sSeq (sRet (eTup (aC (eV 1) (aC (e2 dCat (e2 dCat (eV 1) (eC (.int 1))) (eMth dIndex (eSl dSl (eV 0) (oS (e2 dCat (eV 1) (eC (.int 1)))) oN) (e2 dIx (eV 0) (eV 1)))) aN)))) sNx) sNx) sNx))
theorem p__law_first_go (ns : List Int) (c : C) : ∀ (ks : List Nat), (∀ k ∈ ks, k < ns.length) → forGo (bN 1) firstBody (nD ks) [some (.tup (iD ns)), none] c =
    match ks.find? (hasLater ns) with | some p => .ok (.rt (optD (some (p, nextOf ns p)))) c | none => .ok (.nx [some (.tup (iD ns)), none]) c
  | [], _ => rfl
  | k :: ks, h => by
    have hk := h k List.mem_cons_self
    have hx : ∀ c : C, e2 dIx (eV 0) (eV 1) [some (.tup (iD ns)), some (.int (k : Nat))] c = .ok (.int (ns.getD k 0)) c := fun c => e2_of (v_of rfl) (v_of rfl) (ix_nat hk)
    have hs : ∀ c : C, eSl dSl (eV 0) (oS (e2 dCat (eV 1) (eC (.int 1)))) oN [some (.tup (iD ns)), some (.int (k : Nat))] c = .ok (.tup (iD (ns.drop (k + 1)))) c := fun c => by
      have := sl_from (iD ns) (k + 1)
      rw [← List.map_drop] at this
      exact sl_of (v_of rfl) (oS_of (e2_of (v_of rfl) rfl rfl)) rfl this
    have ht : eT (e2 dInA (e2 dIx (eV 0) (eV 1)) (eSl dSl (eV 0) (oS (e2 dCat (eV 1) (eC (.int 1)))) oN)) [some (.tup (iD ns)), some (.int (k : Nat))] c = .ok (hasLater ns k) c :=
      eT_of (e2_of (hx c) (hs c) (in_int _ _))
    rw [List.find?_cons]
    cases hl : hasLater ns k with
    | true =>
      rw [hl] at ht
      have hm : ns.getD k 0 ∈ ns.drop (k + 1) := of_decide_eq_true hl
      have e : ((k : Int) + 1) + ((ns.drop (k + 1)).idxOf (ns.getD k 0) : Nat) = (nextOf ns k : Nat) := by unfold nextOf; omega
      refine forGo_rt rfl (forget_rt (seq_rt (if_t ht (seq_rt (ret_of (tup_of (aC_of (v_of rfl) (aC_of (e2_of (e2_of (v_of rfl) rfl rfl) (mth_of (hs c) rfl (hx c) (index_int hm)) ?_) rfl))))))))
      exact congrArg (fun z => some (D.int z)) e
    | false =>
      rw [hl] at ht
      exact forGo_cons rfl (Eq.trans (forget_nx (seq_nx (if_f ht rfl) rfl)) rfl) (p__law_first_go ns c ks fun x hx => h x (List.mem_cons_of_mem _ hx))
theorem p__law_first (ns : List Int) (c : C) (h : ns.length ≤ 100000) : m__law_first [.tup (iD ns)] c = .ok (optD (lawFirst ns)) c := by
  have q := p__law_first_go ns c (List.range ns.length) fun k hk => List.mem_range.mp hk
  have hr : iRange1 (e1 dLenA (eV 0)) [some (.tup (iD ns)), none] c = .ok (nD (List.range ns.length)) c := by
    have := rng_of (c1 := c) (env := [some (.tup (iD ns)), none]) (c := c) (a := e1 dLenA (eV 0)) (n := ((iD ns).length : Nat)) (e1_of (v_of rfl) rfl) ⟨by omega, by rw [List.length_map]; omega⟩
    rw [this, rng_map, List.length_map]
  unfold lawFirst
  cases hf : (List.range ns.length).find? (hasLater ns) with
  | some p => rw [hf] at q; exact def_rt (seq_rt (for_of hr q))
  | none => rw [hf] at q; exact def_rt (seq_nx (for_of hr q) (seq_rt (ret_of rfl)))
end K47

namespace K47
open PySem PySem.Spec PyProof.Rows L2 DL
theorem p_places (ns : List Int) (c : C) (h : ns.length ≤ 100000) : m_places_by_number [.tup (iD ns)] c = .ok (posD ns) c := by
  have h1 : posI (.tup (iD ns)) = some ns := dInts_map ns
  have h2 : posN ns = some (posD ns) := by unfold posN; rw [decide_eq_true h]
  have h3 : posB [some (.tup (iD ns)), none, none, none] c = .ok (.rt (posD ns)) c := by
    show (ofO ((posI (.tup (iD ns))).bind posN) c).bind _ = _
    rw [h1, Option.bind_some, h2]; rfl
  exact def_rt h3
theorem posSt_len : ∀ ns : List Int, (posOf ns).length ≤ ns.length := fun ns => by
  refine snoc_ind (P := fun ns => (posOf ns).length ≤ ns.length) (Nat.le_refl _) (fun l x ih => ?_) ns
  rw [posOf_one, List.length_append]
  have := posAdd_len x l.length (posOf l)
  simp only [List.length_singleton]
  omega
theorem occ_len (n : Int) (ns : List Int) : (occ n ns).length ≤ ns.length := by
  unfold occ
  exact Nat.le_trans (List.length_filter_le _ _) (by rw [List.length_range]; exact Nat.le_refl _)
theorem sl_two (ds : List D) : dSl (.lst ds) none (some 2) = some (.lst (ds.take 2)) := by
  show some (D.lst (DL.cutD ds none (some ((2 : Nat) : Int)))) = _
  unfold DL.cutD
  rw [HT.sIx_nat, HT.sIx_none, List.drop_zero, Nat.sub_zero]
  congr 2
  rcases Nat.le_total 2 ds.length with h | h
  · rw [Nat.min_eq_left h]
  · rw [Nat.min_eq_right h, List.take_length, List.take_of_length_le h]
theorem nice_pair (p : Int × Int) : nice 1 (DL.prD p) = true := rfl
theorem nice_pairs (ps : List (Int × Int)) : nice 2 (.lst (ps.map DL.prD)) = true := by
  show (ps.map DL.prD).all (nice 1) = true
  rw [List.all_eq_true]
  intro d hd
  obtain ⟨p, _, rfl⟩ := List.mem_map.mp hd
  rfl
theorem minA_pairs (p : Int × Int) (ps : List (Int × Int)) : dMinA (.lst ((p :: ps).map DL.prD)) = some (DL.prD (minP p ps)) := by
  show (match dMinI ((p :: ps).map DL.prD) with | some r => some r | none => dMinP ((p :: ps).map DL.prD)) = _
  have e : dMinI ((p :: ps).map DL.prD) = none := rfl
  rw [e]
  show (match dPairs ((p :: ps).map DL.prD) with | some (p :: ps) => some (DL.prD (minP p ps)) | _ => none) = _
  rw [dPairs_map]
theorem p_first_in (ns : List Int) (c : C) (h : ns.length ≤ 100000) : m_first_in [.tup (iD ns)] c = .ok (optD (lawFirst ns)) c := by
  have hrows : eLc (iVal (eCall m_places_by_number (aC (eV 0) aN))) [2] (bN 2) (eT (e2 dGt (e1 dLenA (eV 2)) (eC (.int 1)))) (e1 dTuple (eSl dSl (eV 2) oN (oS (eC (.int 2))))) [some (.tup (iD ns)), none, none] c =
      .ok (.lst ((rowsOf ns).map DL.prD)) c := by
    have hi : iVal (eCall m_places_by_number (aC (eV 0) aN)) [some (.tup (iD ns)), none, none] c = .ok ((posOf ns).map fun e => D.lst (iD e.2)) c := by
      unfold iVal
      rw [call_of (aC_of (v_of rfl) rfl) (p_places ns c h), bind_ok]; rfl
    have q := lc_of (c1 := c) (env := [some (.tup (iD ns)), none, none]) (c := c) (own := [2]) (g := bN 2) (t := eT (e2 dGt (e1 dLenA (eV 2)) (eC (.int 1)))) (el := e1 dTuple (eSl dSl (eV 2) oN (oS (eC (.int 2))))) (fun e : Int × List Int => D.lst (iD e.2)) many (fun e => D.tup ((iD e.2).take 2)) hi
      (room_le (by have := posSt_len ns; omega)) fun e _ => ⟨_, rfl, eT_of (e2_of (e1_of (v_of rfl) rfl) rfl (by
        show some (D.bl (decide ((1 : Int) < ((iD e.2).length : Nat)))) = _
        rw [List.length_map]
        unfold many
        congr 2
        exact decide_eq_decide.mpr (by omega))), fun _ => e1_of (sl_of (v_of rfl) rfl (oS_of rfl) (sl_two _)) rfl⟩
    rw [q]
    congr 2
    unfold rowsOf
    rw [List.map_map]
    refine List.map_congr_left fun e he => ?_
    have hl := of_decide_eq_true (List.mem_filter.mp he).2
    show D.tup ((iD e.2).take 2) = DL.prD (two e)
    unfold two
    match e.2, hl with
    | a :: b :: r, _ => rfl
  have hf := rows_first ns
  have hn : ∀ k : D, e2 dNe (eV 1) (eLst aN) [some (.tup (iD ns)), some (.lst ((rowsOf ns).map DL.prD)), none] c = .ok (.bl (!((rowsOf ns).map DL.prD).isEmpty)) c := fun _ => e2_of (v_of rfl) (lst_of rfl) (dNe_nil (nice_pairs _) (by decide))
  refine def_rt (seq_nx (set_of hrows) (seq_rt (ret_of ?_)))
  have hn' := eT_of (hn .non)
  cases hr : rowsOf ns with
  | nil =>
    rw [hr] at hf hn'
    have e : lawFirst ns = none := by
      cases hq : lawFirst ns with
      | none => rfl
      | some q => rw [hq] at hf; cases hf
    rw [e]
    exact eIf_f hn' rfl
  | cons p ps =>
    rw [hr] at hf hn'
    cases hq : lawFirst ns with
    | none => rw [hq] at hf; cases hf
    | some q =>
      rw [hq] at hf
      have e : minP p ps = ((q.1 : Int), (q.2 : Int)) := Option.some.inj hf
      have hm := minA_pairs p ps
      rw [e] at hm
      exact eIf_t hn' (e1_of (v_of rfl) hm)
section
variable {ps : List (Nat × Int)} (G : Good ps) (s : Int) (c : C)
include G
theorem lst_ok : (lst s ps).length ≤ 5000 := by rw [lst_len]; exact G.prod
theorem p_first_places : m_first_places [wD s ps] c = .ok (optD (lawFirst (lst s ps))) c :=
  def_rt (seq_nx (drop_of (call_of (aC_of (v_of rfl) rfl) (p_need_walk G s c))) (seq_rt (ret_of (call_of (aC_of (call_of (aC_of (v_of rfl) rfl) (p_list_in G s c)) rfl) (p_first_in _ c (by have := lst_ok G s; omega))))))
theorem isNot_opt (o : Option (Nat × Nat)) : dIsNot (optD o) .non = some (.bl o.isSome) := by cases o <;> rfl
theorem is_opt (o : Option (Nat × Nat)) : dIs (optD o) .non = some (.bl o.isNone) := by cases o <;> rfl
theorem p_meets_itself : m_meets_itself [wD s ps] c = .ok (.bl (lawFirst (lst s ps)).isSome) c :=
  def_rt (seq_nx (drop_of (call_of (aC_of (v_of rfl) rfl) (p_need_walk G s c))) (seq_rt (ret_of (e2_of (call_of (aC_of (call_of (aC_of (v_of rfl) rfl) (p_list_in G s c)) rfl) (p_first_in _ c (by have := lst_ok G s; omega))) rfl (isNot_opt (ps := ps) G _)))))
theorem p_count_unlike : m_count_unlike [wD s ps] c = .ok (.int ((posOf (lst s ps)).length : Nat)) c :=
  def_rt (seq_nx (drop_of (call_of (aC_of (v_of rfl) rfl) (p_need_walk G s c))) (seq_rt (ret_of (e1_of (call_of (aC_of (call_of (aC_of (v_of rfl) rfl) (p_list_in G s c)) rfl) (p_places _ c (by have := lst_ok G s; omega))) (by
    show some (D.int (((posOf (lst s ps)).map fun e => (Sum.inl e.1 : Key)).length : Nat)) = _
    rw [List.length_map])))))
end
end K47

namespace K47
open PySem PySem.Spec PyProof.Rows L2 DL
theorem p_need_integer (i : Int) (c : C) : m_need_integer [.int i] c = .ok .non c := rfl
theorem nD_map (l : List Nat) : iD (l.map fun (i : Nat) => (i : Int)) = nD l := by rw [iD, List.map_map]; rfl
section
variable {ps : List (Nat × Int)} (G : Good ps) (s : Int) (c : C)
include G
theorem p_places_of (n : Int) : m_places_of [wD s ps, .int n] c = .ok (.tup (nD (occ n (lst s ps)))) c := by
  have hg : ∀ ns : List Int, (atK ((posOf ns).map fun e => (.inl e.1 : Key)) ((posOf ns).map fun e => D.lst (iD e.2)) (.inl n)).getD (.lst []) = .lst (nD (occ n ns)) := fun ns => by
    have h := pos_at ns n
    rw [atK_find n (posOf ns)]
    cases hf : (posOf ns).find? fun e => decide (e.1 = n) with
    | some e =>
      rw [hf] at h
      by_cases hn : n ∈ ns
      · rw [if_pos hn] at h
        have h' : e.2 = (occ n ns).map fun (i : Nat) => (i : Int) := Option.some.inj h
        show D.lst (iD e.2) = _
        rw [h', nD_map]
      · rw [if_neg hn] at h; cases h
    | none =>
      rw [hf] at h
      by_cases hn : n ∈ ns
      · rw [if_pos hn] at h; cases h
      · rw [occ_none hn]; rfl
  have hp := p_places (lst s ps) c (by have := lst_ok G s; omega)
  have he : eGet2 (eCall m_places_by_number (aC (eCall m_list_in (aC (eV 0) aN)) aN)) (eV 1) (eLst aN) [some (wD s ps), some (.int n)] c = .ok (.lst (nD (occ n (lst s ps)))) c := by
    unfold eGet2
    rw [call_of (aC_of (call_of (aC_of (v_of rfl) rfl) (p_list_in G s c)) rfl) hp, bind_ok]
    show ofO ((keyD (.int n)).map fun j => (atK ((posOf (lst s ps)).map fun e => (.inl e.1 : Key)) ((posOf (lst s ps)).map fun e => D.lst (iD e.2)) j).getD (.lst [])) c = _
    rw [← hg]; rfl
  exact def_rt (seq_nx (drop_of (call_of (aC_of (v_of rfl) rfl) (p_need_walk G s c))) (seq_nx (drop_of (call_of (aC_of (v_of rfl) rfl) (p_need_integer n c))) (seq_rt (ret_of (e1_of he rfl)))))
theorem p_most_told {n : Int} (M : MostTold (lst s ps) n) : m_most_told [wD s ps] c = .ok (.tup [.int ((lst s ps).count n : Nat), .int n]) c := by
  have hlen := lst_ok G s
  have hp := p_places (lst s ps) c (by omega)
  have hi : iItm (eCall m_places_by_number (aC (eCall m_list_in (aC (eV 0) aN)) aN)) [some (wD s ps), none, none, none, none] c = .ok ((posOf (lst s ps)).map fun e => D.raw [.int e.1, .lst (iD e.2)]) c := by
    unfold iItm
    rw [call_of (aC_of (call_of (aC_of (v_of rfl) rfl) (p_list_in G s c)) rfl) hp, bind_ok]
    show R.ok (itD ((posOf (lst s ps)).map fun e => (.inl e.1 : Key)) ((posOf (lst s ps)).map fun e => D.lst (iD e.2))) c = _
    congr 1
    generalize posOf (lst s ps) = acc
    induction acc with
    | nil => rfl
    | cons e acc ih => rw [List.map_cons, List.map_cons, List.map_cons, ← ih]; rfl
  have hl := lc_all (c1 := c) (env := [some (wD s ps), none, none, none, none]) (c := c) (own := [2, 3]) (g := bT (bsC (bN 2) (bsC (bN 3) bsN))) (el := eTup (aC (e1 dNeg (e1 dLenA (eV 3))) (aC (eV 2) aN))) (fun e : Int × List Int => D.raw [.int e.1, .lst (iD e.2)])
    (fun e => DL.prD (-(e.2.length : Int), e.1)) hi (room_le (by have := posSt_len (lst s ps); omega)) fun e _ => ⟨_, rfl, tup_of (aC_of (e1_of (e1_of (v_of rfl) rfl) (by
      show some (D.int (-((iD e.2).length : Nat))) = some (D.int (-(e.2.length : Int)))
      rw [List.length_map])) (aC_of (v_of rfl) rfl))⟩
  have hl' : eLc (iItm (eCall m_places_by_number (aC (eCall m_list_in (aC (eV 0) aN)) aN))) [2, 3] (bT (bsC (bN 2) (bsC (bN 3) bsN))) DL.tYes (eTup (aC (e1 dNeg (e1 dLenA (eV 3))) (aC (eV 2) aN))) [some (wD s ps), none, none, none, none] c = .ok (.lst ((toldRows (lst s ps)).map DL.prD)) c := by
    rw [hl]
    unfold toldRows
    rw [List.map_map]; rfl
  cases hr : toldRows (lst s ps) with
  | nil =>
    have := row_told M.mem
    rw [hr] at this; cases this
  | cons p qs =>
    obtain ⟨n', e1, M'⟩ := told_min hr
    have en : n' = n := by
      have a := M.most n' M'.mem
      have b := M'.most n M.mem
      omega
    subst en
    have hm := minA_pairs p qs
    rw [← hr, e1] at hm
    rw [← hr] at *
    refine Eq.trans (def_rt (seq_nx (drop_of (call_of (aC_of (v_of rfl) rfl) (p_need_walk G s c))) (seq_nx (set_of hl') (seq_nx (bd_of (e1_of (v_of rfl) hm) rfl) (seq_rt (ret_of (tup_of (aC_of (e1_of (v_of rfl) rfl) (aC_of (v_of rfl) rfl))))))))) ?_
    rw [Int.neg_neg]
end
end K47

namespace K47
open PySem PySem.Spec PyProof.Rows L2 DL
def sortD : D → Int
  | .non => 0
  | .bl _ => 1
  | .int _ => 2
  | .tup _ => 4
  | .lst _ => 5
  | _ => 6
/-- data that is like itself -/
def lk : Nat → D → Bool
  | _, .non => true
  | _, .bl _ => true
  | _, .int _ => true
  | k + 1, .tup ds => room ds.length && ds.all (lk k)
  | k + 1, .lst ds => room ds.length && ds.all (lk k)
  | _, _ => false
theorem p__law_sort : ∀ (k : Nat) (d : D) (c : C), lk k d = true → m__law_sort [d] c = .ok (.int (sortD d)) c
  | _, .non, _, _ => rfl
  | _, .bl _, _, _ => rfl
  | _, .int _, _, _ => rfl
  | k + 1, .tup _, _, _ => rfl
  | k + 1, .lst _, _, _ => rfl
  | 0, .tup _, _, h => nomatch h
  | 0, .lst _, _, h => nomatch h
  | k, .str _, _, h => by cases k <;> cases h
  | k, .raw _, _, h => by cases k <;> cases h
  | k, .dct _ _, _, h => by cases k <;> cases h
  | k, .fn _, _, h => by cases k <;> cases h
  | k, .cup, _, h => by cases k <;> cases h
  | k, .scr _, _, h => by cases k <;> cases h
theorem dZip_self : ∀ ds : List D, dZip ds ds = ds.map fun d => D.raw [d, d]
  | [] => rfl
  | d :: ds => by
    show D.raw [d, d] :: dZip ds ds = _
    rw [dZip_self ds]; rfl
def likeTest (self : List D → C → R D) : En → C → R Bool := DL.tOr (eT (e2 dNe (eCall m__law_sort (aC (eV 0) aN)) (eV 2))) (eT (e2 dEq (eV 2) (eC (.int 6))))
theorem like_head {k : Nat} {d : D} {c : C} {s : Sx} {r : R Fl} {self : List D → C → R D} (h : lk k d = true) (h6 : sortD d ≠ 6) (hs : s [some d, some d, some (.int (sortD d)), none, none] c = r) :
    (sSeq (sSet 2 (eCall m__law_sort (aC (eV 1) aN))) (sSeq (sIf (likeTest self) (sSeq (sRet (eC (.bl false))) sNx) sNx) s)) [some d, some d, none, none, none] c = r := by
  have q := p__law_sort k d c h
  refine seq_nx (set_of (call_of (aC_of (v_of rfl) rfl) q)) (seq_nx (if_f (tOr_of (k := false) (j := false) (eT_of (e2_of (call_of (aC_of (v_of rfl) rfl) q) (v_of rfl) ?_)) fun _ => eT_of (e2_of (v_of rfl) rfl ?_)) rfl) hs)
  · rw [dNe_int, beq_self_eq_true]; rfl
  · rw [dEq_int, beq_eq_false_iff_ne.mpr h6]
theorem like_seq {n : Nat} {ds : List D} {d : D} {c : C} {z : Int} (hit : dItems d = some ds) (hz : dZip2 d d = some (dZip ds ds)) (hlen : dLenA d = some (.int ds.length)) (hsz : z = 4 ∨ z = 5) (hr : room ds.length = true)
    (ih : ∀ x ∈ ds, mr__law_like n [x, x] c = .ok (.bl true) c) {s : Sx} :
    (sSeq (sIf (eT (e2 dInA (eV 2) (eTup (aC (eC (.int 4)) (aC (eC (.int 5)) aN))))) (sSeq (sRet (eAnd (e2 dEq (e1 dLenA (eV 0)) (e1 dLenA (eV 1))) (e2 dEq (eLc (iZip (eV 0) (eV 1)) [3, 4] (bT (bsC (bN 3) (bsC (bN 4) bsN))) (DL.tNot (eT (eCall (mr__law_like n) (aC (eV 3) (aC (eV 4) aN))))) (eC (.int 1))) (eLst aN)))) sNx) sNx) s) [some d, some d, some (.int z), none, none] c = .ok (.rt (.bl true)) c := by
  have hin : dInA (.int z) (.tup [.int 4, .int 5]) = some (.bl true) := by
    have := in_int z [4, 5]
    rw [show iD [4, 5] = [D.int 4, D.int 5] from rfl] at this
    rw [this, decide_eq_true (by rcases hsz with e | e <;> (rw [e]; simp))]
  have hzz : iZip (eV 0) (eV 1) [some d, some d, some (.int z), none, none] c = .ok (ds.map fun d => D.raw [d, d]) c := zip_of (v_of rfl) (v_of rfl) (hz.trans (congrArg some (dZip_self ds)))
  have hlc := lc_of (c1 := c) (env := [some d, some d, some (.int z), none, none]) (c := c) (own := [3, 4]) (g := bT (bsC (bN 3) (bsC (bN 4) bsN))) (t := DL.tNot (eT (eCall (mr__law_like n) (aC (eV 3) (aC (eV 4) aN))))) (el := eC (.int 1))
    (fun d => D.raw [d, d]) (fun _ => false) (fun _ => .int 1) hzz hr fun x hx => ⟨_, rfl, tNot_of (k := true) (eT_of (call_of (aC_of (v_of rfl) (aC_of (v_of rfl) rfl)) (ih x hx))), fun q => nomatch q⟩
  have hnil : (ds.filter fun _ => false) = [] := List.filter_eq_nil_iff.mpr fun _ _ q => nomatch q
  rw [hnil] at hlc
  refine seq_rt (if_t (eT_of (e2_of (v_of rfl) (tup_of rfl) hin)) (seq_rt (ret_of (eAnd_of (k := true) (j := true) (e2_of (e1_of (v_of rfl) hlen) (e1_of (v_of rfl) hlen) ?_) fun _ => e2_of hlc (lst_of rfl) (dEq_nil (k := 1) rfl (by decide))))))
  rw [dEq_int, beq_self_eq_true]
theorem like_flat {n : Nat} {d : D} {c : C} {z : Int} (hsz : z ≠ 4 ∧ z ≠ 5) (he : dEq d d = some (.bl true)) {p : Sx} :
    (sSeq (sIf (eT (e2 dInA (eV 2) (eTup (aC (eC (.int 4)) (aC (eC (.int 5)) aN))))) p sNx) (sSeq (sRet (e2 dEq (eV 0) (eV 1))) sNx)) [some d, some d, some (.int z), none, none] c = .ok (.rt (.bl true)) c := by
  have hin : dInA (.int z) (.tup [.int 4, .int 5]) = some (.bl false) := by
    have := in_int z [4, 5]
    rw [show iD [4, 5] = [D.int 4, D.int 5] from rfl] at this
    rw [this, decide_eq_false (by simp [hsz.1, hsz.2])]
  exact seq_nx (if_f (eT_of (e2_of (v_of rfl) (tup_of rfl) hin)) rfl) (seq_rt (ret_of (e2_of (v_of rfl) (v_of rfl) he)))
theorem p_like_self : ∀ (n : Nat) (d : D) (c : C), lk n d = true → mr__law_like (n + 1) [d, d] c = .ok (.bl true) c
  | n, .non, c, h => def_rt (like_head (self := mr__law_like n) (k := n) h (show (0 : Int) ≠ 6 by decide) (like_flat (n := n) ⟨show (0 : Int) ≠ 4 by decide, show (0 : Int) ≠ 5 by decide⟩ (dEq_of (fit_nice (k := 0) rfl (by decide)) (fit_nice (k := 0) rfl (by decide)) (by simp [eqB, py, PyData.eqv]))))
  | n, .bl b, c, h => def_rt (like_head (self := mr__law_like n) (k := n) h (show (1 : Int) ≠ 6 by decide) (like_flat (n := n) ⟨show (1 : Int) ≠ 4 by decide, show (1 : Int) ≠ 5 by decide⟩ ((dEq_bl b b).trans (by rw [beq_self_eq_true]))))
  | n, .int i, c, h => def_rt (like_head (self := mr__law_like n) (k := n) h (show (2 : Int) ≠ 6 by decide) (like_flat (n := n) ⟨show (2 : Int) ≠ 4 by decide, show (2 : Int) ≠ 5 by decide⟩ ((dEq_int i i).trans (by rw [beq_self_eq_true]))))
  | n + 1, .tup ds, c, h => by
    have h' : room ds.length = true ∧ ds.all (lk n) = true := by
      have q : (room ds.length && ds.all (lk n)) = true := h
      rwa [Bool.and_eq_true] at q
    exact def_rt (like_head (self := mr__law_like (n + 1)) h (show (4 : Int) ≠ 6 by decide) (like_seq rfl rfl rfl (.inl rfl) h'.1 fun x hx => p_like_self n x c (List.all_eq_true.mp h'.2 x hx)))
  | n + 1, .lst ds, c, h => by
    have h' : room ds.length = true ∧ ds.all (lk n) = true := by
      have q : (room ds.length && ds.all (lk n)) = true := h
      rwa [Bool.and_eq_true] at q
    exact def_rt (like_head (self := mr__law_like (n + 1)) h (show (5 : Int) ≠ 6 by decide) (like_seq rfl rfl rfl (.inr rfl) h'.1 fun x hx => p_like_self n x c (List.all_eq_true.mp h'.2 x hx)))
  | 0, .tup _, _, h => nomatch h
  | 0, .lst _, _, h => nomatch h
  | k, .str _, _, h => by cases k <;> cases h
  | k, .raw _, _, h => by cases k <;> cases h
  | k, .dct _ _, _, h => by cases k <;> cases h
  | k, .fn _, _, h => by cases k <;> cases h
  | k, .cup, _, h => by cases k <;> cases h
  | k, .scr _, _, h => by cases k <;> cases h
theorem p__law_like {d : D} {c : C} (h : lk 29 d = true) : m__law_like [d, d] c = .ok (.bl true) c := p_like_self 29 d c h
end K47

namespace K47
open PySem PySem.Spec PyProof.Rows L2 DL
theorem mulOwn {a : Int} {n : Nat} (t : Int) (hn : n ≤ 5000) (h1 : 1 - (n : Int) ≤ a) (h2 : a ≤ (n : Int) - 1) : dInt2 iMul (.int a) (.int t) = some (.int (a * t)) := mul_l a t (by omega) (by omega)
theorem zip_row (row : List Int) (ps : List (Nat × Int)) : dZip2 (.tup (iD row)) (.tup (ps.map prN)) = some ((row.zip ps).map fun q => D.raw [.int q.1, prN q.2]) := congrArg some (dZip_gen D.int prN row ps)
theorem filter_any {α : Type} (P : α → Bool) : ∀ l : List α, (l.filter P).isEmpty = !l.any P
  | [] => rfl
  | x :: l => by
    rw [List.filter_cons, List.any_cons]
    cases hx : P x with
    | true => rfl
    | false => rw [if_neg Bool.false_ne_true, Bool.false_or]; exact filter_any P l
theorem nz_gen (row : List Int) (env : En) (c : C) (i : Nat) (hi : env.getD i none = some (.tup (iD row))) {j : Nat} (hj : ∀ x : Int, ((wipeE env [j]).set j (some (.int x))).getD j none = some (.int x)) (hr : row.length ≤ 100000) :
    e1 dAny (eLc (iSeq (eV i)) [j] (bN j) DL.tYes (e2 dNe (eV j) (eC (.int 0)))) env c = .ok (.bl (nzB row)) c :=
  e1_of (lc_all D.int (fun x => .bl (!(x == 0))) (seqI_of (v_of hi) rfl) (room_le (by omega)) fun x _ => ⟨_, rfl, e2_of (v_of (hj x)) rfl (dNe_int x 0)⟩) (dAny_gen _ row)
section
variable {ps : List (Nat × Int)} (G : Good ps) (s : Int) (c : C)
include G
theorem p_is_difference_row {row : List Int} (hl : row.length = ps.length) : m_is_difference_row [wD s ps, .tup (iD row)] c = .ok (.bl (rowOk ps row)) c := by
  have hlen := G.len
  have h1 : m_is_tuple_of [.tup (iD row), .int (((ps.map prN).length : Nat) : Int), .int (((ps.map prN).length : Nat) : Int)] c = .ok (.bl true) c := by
    rw [p_is_tuple_of, List.length_map, List.length_map, hl, decide_eq_true (by omega)]; rfl
  have hz : ∀ (x y : Option D) , iZip (eV 1) (eV 2) [some (wD s ps), some (.tup (iD row)), some (.tup (ps.map prN)), x, y, none] c = .ok ((row.zip ps).map fun q => D.raw [.int q.1, prN q.2]) c := fun _ _ => zip_of (v_of rfl) (v_of rfl) (zip_row row ps)
  have hr : room (row.zip ps).length = true := room_le (by rw [List.length_zip]; omega)
  have h2 : e1 dAll (eLc (iZip (eV 1) (eV 2)) [3, 4, 5] (bT (bsC (bN 3) (bsC (bT (bsC (bN 4) (bsC (bN 5) bsN))) bsN))) DL.tYes (eCall m_is_number (aC (eV 3) (aC (e2 dSub (eC (.int 1)) (eV 4)) (aC (e2 dSub (eV 4) (eC (.int 1))) aN))))) [some (wD s ps), some (.tup (iD row)), some (.tup (ps.map prN)), none, none, none] c = .ok (.bl (inB ps row)) c :=
    e1_of (lc_all (fun q : Int × (Nat × Int) => D.raw [.int q.1, prN q.2]) (fun q => .bl (decide (1 - (q.2.1 : Int) ≤ q.1) && decide (q.1 ≤ (q.2.1 : Int) - 1))) (hz none none) hr fun q _ => ⟨_, rfl, call_of (aC_of (v_of rfl) (aC_of (e2_of rfl (v_of rfl) rfl) (aC_of (e2_of (v_of rfl) rfl rfl) rfl))) (p_is_number _ _ _ _)⟩) (dAll_gen _ _)
  refine def_rt (seq_nx (drop_of (call_of (aC_of (v_of rfl) rfl) (p_need_walk G s c))) (seq_nx (set_of (e2_of (v_of rfl) rfl rfl)) (seq_nx (if_f (tNot_of (k := true) (eT_of (call_of (aC_of (v_of rfl) (aC_of (e1_of (v_of rfl) rfl) (aC_of (e1_of (v_of rfl) rfl) rfl))) h1))) rfl) ?_)))
  unfold rowOk
  cases hi : inB ps row with
  | false =>
    rw [hi] at h2
    rw [Bool.false_and, Bool.and_false]
    exact seq_rt (if_t (tNot_of (k := false) (eT_of h2)) (seq_rt (ret_of rfl)))
  | true =>
    rw [hi] at h2
    rw [Bool.true_and]
    have hin : ∀ q ∈ row.zip ps, 1 - (q.2.1 : Int) ≤ q.1 ∧ q.1 ≤ (q.2.1 : Int) - 1 := fun q hq => by
      have := List.all_eq_true.mp hi q hq
      rw [Bool.and_eq_true, decide_eq_true_eq, decide_eq_true_eq] at this
      exact this
    exact seq_nx (if_f (tNot_of (k := true) (eT_of h2)) rfl) (seq_rt (ret_of (eAnd_of (nz_gen row _ c 1 rfl (fun _ => rfl) (by omega)) fun _ => e2_of (e1_of
      (lc_all (fun q : Int × (Nat × Int) => D.raw [.int q.1, prN q.2]) (fun q => .int (q.1 * q.2.2)) (hz none none) hr fun q hq => ⟨_, rfl, e2_of (v_of rfl) (v_of rfl) (mulOwn q.2.2 (G.pos q.2 (List.of_mem_zip hq).2).2 (hin q hq).1 (hin q hq).2)⟩) (dSum_gen _ _)) rfl (dEq_int _ 0))))
theorem p_is_difference_len {ds : List D} (hl : ds.length ≠ ps.length) : m_is_difference_row [wD s ps, .tup ds] c = .ok (.bl false) c := by
  have h1 : m_is_tuple_of [.tup ds, .int (((ps.map prN).length : Nat) : Int), .int (((ps.map prN).length : Nat) : Int)] c = .ok (.bl false) c := by
    rw [p_is_tuple_of, List.length_map]
    rcases Nat.lt_or_gt_of_ne hl with h | h
    · rw [decide_eq_false (by omega)]; rfl
    · rw [decide_eq_true (by omega), decide_eq_false (by omega)]; rfl
  exact def_rt (seq_nx (drop_of (call_of (aC_of (v_of rfl) rfl) (p_need_walk G s c))) (seq_nx (set_of (e2_of (v_of rfl) rfl rfl)) (seq_rt (if_t (tNot_of (k := false) (eT_of (call_of (aC_of (v_of rfl) (aC_of (e1_of (v_of rfl) rfl) (aC_of (e1_of (v_of rfl) rfl) rfl))) h1))) (seq_rt (ret_of rfl))))))
theorem p_is_difference_lst {ds : List D} : m_is_difference_row [wD s ps, .lst ds] c = .ok (.bl false) c :=
  def_rt (seq_nx (drop_of (call_of (aC_of (v_of rfl) rfl) (p_need_walk G s c))) (seq_nx (set_of (e2_of (v_of rfl) rfl rfl)) (seq_rt (if_t (tNot_of (k := false) (eT_of (call_of (aC_of (v_of rfl) (aC_of (e1_of (v_of rfl) rfl) (aC_of (e1_of (v_of rfl) rfl) rfl))) (p_is_tuple_lst _ _ _ c)))) (seq_rt (ret_of rfl))))))
theorem p__law_is_row {row : List Int} (hl : row.length = ps.length) : m__law_is_row [wD s ps, .tup (iD row)] c = .ok (.bl (rowOk ps row)) c := by
  have hlen := G.len
  have hr0 : room row.length = true := room_le (by omega)
  have hr : room (row.zip ps).length = true := room_le (by rw [List.length_zip]; omega)
  have hz : ∀ (x y z : Option D), iZip (eV 1) (e2 dIx (eV 0) (eC (.int 1))) [some (wD s ps), some (.tup (iD row)), x, y, z] c = .ok ((row.zip ps).map fun q => D.raw [.int q.1, prN q.2]) c := fun _ _ _ => zip_of (v_of rfl) (e2_of (v_of rfl) rfl rfl) (zip_row row ps)
  have hnz0 : ∀ x : Int, eT (e2 dNe (eV 2) (eC (.int 0))) [some (wD s ps), some (.tup (iD row)), some (.int x), none, none] c = .ok (!(x == 0)) c := fun x => eT_of (e2_of (v_of rfl) rfl (dNe_int x 0))
  have h1 := lc_of (c1 := c) (env := [some (wD s ps), some (.tup (iD row)), none, none, none]) (c := c) (it := iSeq (eV 1)) (own := [2]) (g := bN 2) (t := eT (e2 dNe (eV 2) (eC (.int 0)))) (el := eV 2) D.int (fun x => !(x == 0)) D.int (seqI_of (v_of rfl) rfl) hr0 fun x _ => ⟨_, rfl, hnz0 x, fun _ => v_of rfl⟩
  have e1' : dEq (.lst ((row.filter fun x => !(x == 0)).map D.int)) (.lst []) = some (.bl (!nzB row)) := by
    rw [dEq_nil (k := 1) (nice_ints _) (by decide), List.isEmpty_map, filter_any]; rfl
  have hne : eT (e2 dNe (e1 dLenA (eV 1)) (e1 dLenA (e2 dIx (eV 0) (eC (.int 1))))) [some (wD s ps), some (.tup (iD row)), none, none, none] c = .ok false c := by
    refine eT_of (e2_of (e1_of (v_of rfl) rfl) (e1_of (e2_of (v_of rfl) rfl rfl) rfl) ?_)
    rw [dNe_int, List.length_map, List.length_map, hl, beq_self_eq_true]; rfl
  have hnil : eT (e2 dEq (eLc (iSeq (eV 1)) [2] (bN 2) (eT (e2 dNe (eV 2) (eC (.int 0)))) (eV 2)) (eLst aN)) [some (wD s ps), some (.tup (iD row)), none, none, none] c = .ok (!nzB row) c := eT_of (e2_of h1 (lst_of rfl) e1')
  unfold rowOk
  cases hz' : nzB row with
  | false =>
    rw [hz'] at hnil
    rw [Bool.false_and]
    exact def_rt (seq_rt (if_t (tOr_of (k := false) (j := true) hne fun _ => hnil) (seq_rt (ret_of rfl))))
  | true =>
  rw [hz'] at hnil
  rw [Bool.true_and]
  have hfar := lc_of (c1 := c) (env := [some (wD s ps), some (.tup (iD row)), none, none, none]) (c := c) (own := [2, 4]) (g := bT (bsC (bN 2) (bsC (bN 4) bsN))) (t := DL.tOr (eT (e2 dLe (eV 2) (e1 dNeg (e2 dIx (eV 4) (eC (.int 0)))))) (eT (e2 dGe (eV 2) (e2 dIx (eV 4) (eC (.int 0)))))) (el := eV 2)
    (fun q : Int × (Nat × Int) => D.raw [.int q.1, prN q.2]) (fun q => decide (q.1 ≤ -(q.2.1 : Int)) || decide ((q.2.1 : Int) ≤ q.1)) (fun q => .int q.1) (hz none none none) hr fun q _ => ⟨_, rfl, tOr_of (eT_of (e2_of (v_of rfl) (e1_of (e2_of (v_of rfl) rfl rfl) rfl) rfl)) fun _ => eT_of (e2_of (v_of rfl) (e2_of (v_of rfl) rfl rfl) rfl), fun _ => v_of rfl⟩
  have hfe : dEq (.lst (((row.zip ps).filter fun q => decide (q.1 ≤ -(q.2.1 : Int)) || decide ((q.2.1 : Int) ≤ q.1)).map fun q => D.int q.1)) (.lst []) = some (.bl (inB ps row)) := by
    have en : nice 1 (.lst (((row.zip ps).filter fun q => decide (q.1 ≤ -(q.2.1 : Int)) || decide ((q.2.1 : Int) ≤ q.1)).map fun q => D.int q.1)) = true := by
      have := nice_ints (((row.zip ps).filter fun q => decide (q.1 ≤ -(q.2.1 : Int)) || decide ((q.2.1 : Int) ≤ q.1)).map fun q => q.1)
      rw [List.map_map] at this
      exact this
    rw [dEq_nil en (by decide), List.isEmpty_map, filter_any]
    congr 2
    unfold inB
    rw [List.not_any_eq_all_not]
    congr 1
    funext q
    rw [Bool.not_or]
    congr 1
    · rw [← decide_not]; exact decide_eq_decide.mpr (by omega)
    · rw [← decide_not]; exact decide_eq_decide.mpr (by omega)
  refine def_rt (seq_nx (if_f (tOr_of (k := false) (j := false) hne fun _ => hnil) rfl) (seq_nx (set_of hfar) (seq_rt (ret_of (eAnd_of (e2_of (v_of rfl) (lst_of rfl) hfe) fun hin => ?_)))))
  have hin' : ∀ q ∈ row.zip ps, 1 - (q.2.1 : Int) ≤ q.1 ∧ q.1 ≤ (q.2.1 : Int) - 1 := fun q hq => by
    have := List.all_eq_true.mp hin q hq
    rw [Bool.and_eq_true, decide_eq_true_eq, decide_eq_true_eq] at this
    exact this
  exact e2_of (e1_of (lc_all (fun q : Int × (Nat × Int) => D.raw [.int q.1, prN q.2]) (fun q => .int (q.1 * q.2.2)) (hz none _ none) hr fun q hq => ⟨_, rfl, e2_of (v_of rfl) (e2_of (v_of rfl) rfl rfl) (mulOwn q.2.2 (G.pos q.2 (List.of_mem_zip hq).2).2 (hin' q hq).1 (hin' q hq).2)⟩) (dSum_gen _ _)) rfl (dEq_int _ 0)
end
end K47

namespace K47
open PySem PySem.Spec PyProof.Rows L2 DL
theorem imod_pos (a b : Int) (h : 0 < b) : dInt2 iMod (.int a) (.int b) = some (.int (a % b)) := by
  show iMod a b = _
  unfold iMod; rw [decide_eq_true h]
theorem idiv_pos (a : Int) (b : Nat) (h : 0 < b) (h' : b ≤ 1000000) : dInt2 iDiv (.int a) (.int (b : Nat)) = some (.int (a / (b : Nat))) := by
  show iDiv a (b : Nat) = _
  unfold iDiv
  have hl : ((b : Nat) : Int).natAbs.log2 < 9000 := by
    rw [Int.natAbs_natCast]
    exact Nat.lt_trans ((Nat.log2_lt (by omega)).mpr (Nat.lt_of_le_of_lt h' (by decide : 1000000 < 2 ^ 20))) (by decide)
  rw [decide_eq_true ⟨by omega, hl⟩]
theorem cup_put {env : En} {c1 : Int × Int} {c : C} {e : Ex} {k : Bool} {n : Int} (h : e env c = .ok (.int n) (some c1)) (hi : env.getD 0 none = some .cup) : sCupPut 0 k e env c = .ok (.nx env) (some (match k with | true => (c1.1, n) | false => (n, c1.2))) := by
  unfold sCupPut
  rw [h, bind_ok]
  cases k <;> simp only [hi] <;> rfl
theorem p__law_roll (x y : Int) (n : Nat) (h : 0 < n) (h' : n ≤ 1000000) : ∃ (r : Nat) (q : Int × Int), m__law_roll [.cup, .int (n : Nat)] (some (x, y)) = .ok (.int (r : Nat)) (some q) ∧ r < n := by
  have hn : (0 : Int) < (n : Nat) := by omega
  by_cases hx : 0 < x
  · have h1 : e2 dGt (eCup 0 false) (eC (.int 0)) [some .cup, some (.int (n : Nat)), none, none] (some (x, y)) = .ok (.bl true) (some (x, y)) := by
      refine e2_of (x := .int x) rfl rfl ?_
      show some (D.bl (decide (0 < x))) = _
      rw [decide_eq_true hx]
    refine ⟨(x % (n : Nat)).toNat, (x / (n : Nat), y), ?_, ?_⟩
    · have e : (((x % (n : Nat)).toNat : Nat) : Int) = x % (n : Nat) := Int.toNat_of_nonneg (Int.emod_nonneg _ (by omega))
      rw [e]
      exact def_rt (seq_rt (if_t (eT_of h1) (seq_nx (set_of (e2_of (e1_of (x := .int x) rfl rfl) (v_of rfl) (imod_pos x _ hn))) (seq_nx (cup_put (e2_of (x := .int x) rfl (v_of rfl) (idiv_pos x n h h')) rfl) (seq_rt (ret_of (v_of rfl)))))))
    · have := Int.emod_lt_of_pos x hn
      omega
  · have h1 : e2 dGt (eCup 0 false) (eC (.int 0)) [some .cup, some (.int (n : Nat)), none, none] (some (x, y)) = .ok (.bl false) (some (x, y)) := by
      refine e2_of (x := .int x) rfl rfl ?_
      show some (D.bl (decide (0 < x))) = _
      rw [decide_eq_false hx]
    obtain ⟨y', hy'⟩ : ∃ y', y' = (y * 30983 + 8039) % 2147483549 := ⟨_, rfl⟩
    have b1 : 0 ≤ y' := hy' ▸ Int.emod_nonneg _ (by decide)
    have b2 : y' < 2147483549 := hy' ▸ Int.emod_lt_of_pos _ (by decide)
    have m1 : dInt2 iMul (.int y) (.int 30983) = some (.int (y * 30983)) := by
      show iMul y 30983 = _
      unfold iMul
      rw [mulOk_r (by decide) (by decide)]
    have m2 : dInt2 iMul (.int y') (.int (y' + 241)) = some (.int (y' * (y' + 241))) := mul_l _ _ (by omega) (by omega)
    have hc : e2 (dInt2 iMod) (e1 dToInt (e2 dCat (e2 (dInt2 iMul) (eCup 0 true) (eC (.int 30983))) (eC (.int 8039)))) (eC (.int 2147483549)) [some .cup, some (.int (n : Nat)), none, none] (some (x, y)) = .ok (.int y') (some (x, y)) := by
      rw [hy']
      exact e2_of (e1_of (e2_of (e2_of (x := .int y) rfl rfl m1) rfl rfl) rfl) rfl (imod_pos _ _ (by decide))
    obtain ⟨z, hz⟩ : ∃ z, z = (y' * (y' + 241)) % 2147483563 := ⟨_, rfl⟩
    have hd : e2 (dInt2 iMod) (e1 dToInt (e2 (dInt2 iMul) (eCup 0 true) (e2 dCat (eCup 0 true) (eC (.int 241))))) (eC (.int 2147483563)) [some .cup, some (.int (n : Nat)), none, none] (some (x, y')) = .ok (.int z) (some (x, y')) := by
      rw [hz]
      exact e2_of (e1_of (e2_of (x := .int y') rfl (e2_of (x := .int y') rfl rfl rfl) m2) rfl) rfl (imod_pos _ _ (by decide))
    have hl : e2 (dInt2 iMod) (e1 dToInt (e2 (dInt2 iDiv) (eV 3) (eC (.int 839)))) (eV 1) [some .cup, some (.int (n : Nat)), none, some (.int z)] (some (x, y')) = .ok (.int ((z / (839 : Nat)) % (n : Nat))) (some (x, y')) :=
      e2_of (e1_of (e2_of (v_of rfl) rfl (idiv_pos z 839 (by decide) (by decide))) rfl) (v_of rfl) (imod_pos _ _ hn)
    refine ⟨((z / (839 : Nat)) % (n : Nat)).toNat, (x, y'), ?_, ?_⟩
    · have e : ((((z / (839 : Nat)) % (n : Nat)).toNat : Nat) : Int) = (z / (839 : Nat)) % (n : Nat) := Int.toNat_of_nonneg (Int.emod_nonneg _ (by omega))
      rw [e]
      exact def_rt (seq_nx (if_f (eT_of h1) rfl) (seq_nx (cup_put hc rfl) (seq_nx (set_of hd) (seq_rt (ret_of hl)))))
    · have := Int.emod_lt_of_pos (z / (839 : Nat)) hn
      omega
theorem p__law_some {ds : List D} (p : Int × Int) (h : 0 < ds.length) (h' : ds.length ≤ 1000000) : ∃ x ∈ ds, ∃ q, m__law_some [.cup, .lst ds] (some p) = .ok x (some q) := by
  obtain ⟨r, q, hr, hlt⟩ := p__law_roll p.1 p.2 ds.length h h'
  refine ⟨ds[r], List.getElem_mem hlt, q, def_rt (seq_rt (ret_of (e2_of (v_of rfl) (call_of (aC_of (v_of rfl) (aC_of (e1_of (v_of rfl) rfl) rfl)) hr) ?_)))⟩
  show atI ds ((r : Nat) : Int) = _
  rw [atI_nat _ _ hlt, List.getElem?_eq_getElem hlt]
theorem p__law_step (p : Int × Int) : ∃ (t : Int) (q : Int × Int), m__law_step [.cup] (some p) = .ok (.int t) (some q) := by
  obtain ⟨x, hx, q, hq⟩ := p__law_some (ds := iD [1, 1, 1, 2, 3, -1, -2, 0, 4, 5, 6, 8, 10, -7, 12, 1000]) p (by decide) (by decide)
  obtain ⟨t, _, rfl⟩ := List.mem_map.mp hx
  exact ⟨t, q, def_rt (seq_rt (ret_of (call_of (aC_of (v_of rfl) (aC_of rfl rfl)) hq)))⟩
/-! sizes -/
structure SzOk (ms : List Nat) : Prop where
  pos : ∀ m ∈ ms, 1 ≤ m ∧ m ≤ 6
  prod : nprod ms ≤ 200
def sizesBody : Sx := (sForget [3, 4] (sSeq (sSet 4 (eCall m__law_some (aC (eV 0) (aC (eLst (aC (eC (.int 1)) (aC (eC (.int 2)) (aC (eC (.int 2)) (aC (eC (.int 2)) (aC (eC (.int 3)) (aC (eC (.int 3)) (aC (eC (.int 4)) (aC (eC (.int 5)) (aC (eC (.int 6)) aN)))))))))) aN)))) (sSeq (sIf (eT (e2 dLe (e2 (dInt2 iMul) (eCallL m__law_number (aC (eV 2) aN)) (eV 4)) (eV 1))) (sSeq (sApp 2 (eV 4)) sNx) sNx) sNx)))
theorem nprod_append : ∀ (a b : List Nat), nprod (a ++ b) = nprod a * nprod b
  | [], b => by simp [nprod]
  | x :: a, b => by rw [List.cons_append, nprod, nprod, nprod_append a b, Nat.mul_assoc]
theorem p_sizes_go : ∀ (ks : List D) (ms : List Nat) (p : Int × Int), SzOk ms → ms.length + ks.length ≤ 5 → ∃ (ms' : List Nat) (q : Int × Int),
    forGo (bN 3) sizesBody ks [some .cup, some (.int 200), some (.lst (nD ms)), none, none] (some p) = .ok (.nx [some .cup, some (.int 200), some (.lst (nD ms')), none, none]) (some q) ∧ SzOk ms' ∧ ms'.length ≤ 5
  | [], ms, p, h, hl => ⟨ms, p, rfl, h, by simpa using hl⟩
  | k :: ks, ms, p, h, hl => by
    obtain ⟨x, hx, q, hq⟩ := p__law_some (ds := nD [1, 2, 2, 2, 3, 3, 4, 5, 6]) p (by decide) (by decide)
    obtain ⟨m, hm, rfl⟩ := List.mem_map.mp hx
    have hm6 : 1 ≤ m ∧ m ≤ 6 := by
      simp only [List.mem_cons, List.not_mem_nil, or_false] at hm
      omega
    have hnum : m__law_number [.lst (nD ms)] (some q) = .ok (.int (nprod ms : Nat)) (some q) := p__law_number ms _ (fun x hx => by have := h.pos x hx; omega) D.lst fun _ => rfl
    have hp := h.prod
    have hmul : dInt2 iMul (.int (nprod ms : Nat)) (.int (m : Nat)) = some (.int ((nprod ms : Nat) * (m : Nat) : Int)) := mul_nat (nprod ms) (m : Nat) (by omega)
    have hs : sSet 4 (eCall m__law_some (aC (eV 0) (aC (eLst (aC (eC (.int 1)) (aC (eC (.int 2)) (aC (eC (.int 2)) (aC (eC (.int 2)) (aC (eC (.int 3)) (aC (eC (.int 3)) (aC (eC (.int 4)) (aC (eC (.int 5)) (aC (eC (.int 6)) aN)))))))))) aN))) [some .cup, some (.int 200), some (.lst (nD ms)), some k, none] (some p) = .ok (.nx [some .cup, some (.int 200), some (.lst (nD ms)), some k, some (.int (m : Nat))]) (some q) :=
      set_of (call_of (aC_of (v_of rfl) (aC_of rfl rfl)) hq)
    have ht : eT (e2 dLe (e2 (dInt2 iMul) (eCallL m__law_number (aC (eV 2) aN)) (eV 4)) (eV 1)) [some .cup, some (.int 200), some (.lst (nD ms)), some k, some (.int (m : Nat))] (some q) = .ok (decide ((nprod ms : Nat) * (m : Nat) ≤ (200 : Int))) (some q) :=
      eT_of (e2_of (e2_of (callL_of (aC_of (v_of rfl) rfl) hnum rfl) (v_of rfl) hmul) (v_of rfl) rfl)
    by_cases hle : ((nprod ms : Nat) : Int) * (m : Nat) ≤ 200
    · rw [decide_eq_true hle] at ht
      have h2 : SzOk (ms ++ [m]) := ⟨fun y hy => (List.mem_append.mp hy).elim (h.pos y) fun z => by
          have : y = m := by simpa using z
          rw [this]; exact hm6, by
        rw [nprod_append]
        simp only [nprod, Nat.mul_one]
        have : ((nprod ms * m : Nat) : Int) ≤ 200 := by rw [Int.natCast_mul]; exact hle
        omega⟩
      obtain ⟨ms', q', i1, i2, i3⟩ := p_sizes_go ks (ms ++ [m]) q h2 (by rw [List.length_append, List.length_singleton]; rw [List.length_cons] at hl; omega)
      refine ⟨ms', q', ?_, i2, i3⟩
      have e : nD ms ++ [D.int (m : Nat)] = nD (ms ++ [m]) := by
        show List.map _ ms ++ _ = List.map _ (ms ++ _)
        rw [List.map_append]; rfl
      rw [← e] at i1
      exact forGo_cons rfl (Eq.trans (forget_nx (seq_nx hs (seq_nx (if_t ht (seq_nx (app_of rfl (v_of rfl) (room_le (by rw [List.length_map]; rw [List.length_cons] at hl; omega))) rfl)) rfl))) rfl) i1
    · rw [decide_eq_false hle] at ht
      obtain ⟨ms', q', i1, i2, i3⟩ := p_sizes_go ks ms q h (by rw [List.length_cons] at hl; omega)
      exact ⟨ms', q', forGo_cons rfl (Eq.trans (forget_nx (seq_nx hs (seq_nx (if_f ht rfl) rfl))) rfl) i1, i2, i3⟩
theorem p__law_sizes (p : Int × Int) : ∃ (ms : List Nat) (q : Int × Int), m__law_sizes [.cup, .int 200] (some p) = .ok (.tup (nD ms)) (some q) ∧ SzOk ms ∧ ms.length ≤ 5 := by
  obtain ⟨x, hx, q, hq⟩ := p__law_some (ds := nD [0, 1, 2, 2, 3, 3, 4, 5]) p (by decide) (by decide)
  obtain ⟨k, hk, rfl⟩ := List.mem_map.mp hx
  have hk5 : k ≤ 5 := by
    simp only [List.mem_cons, List.not_mem_nil, or_false] at hk
    omega
  obtain ⟨ms, q', i1, i2, i3⟩ := p_sizes_go (nD (List.range k)) [] q ⟨fun _ h => (nomatch h), by decide⟩ (by rw [List.length_map, List.length_range]; simpa using hk5)
  have hr : iRange1 (eCall m__law_some (aC (eV 0) (aC (eLst (aC (eC (.int 0)) (aC (eC (.int 1)) (aC (eC (.int 2)) (aC (eC (.int 2)) (aC (eC (.int 3)) (aC (eC (.int 3)) (aC (eC (.int 4)) (aC (eC (.int 5)) aN))))))))) aN))) [some .cup, some (.int 200), some (.lst []), none, none] (some p) = .ok (nD (List.range k)) (some q) :=
    (rng_of (call_of (aC_of (v_of rfl) (aC_of rfl rfl)) hq) ⟨by omega, by omega⟩).trans (congrArg (fun l => R.ok l (some q)) (rng_map k))
  exact ⟨ms, q', def_rt (seq_nx (set_of (lst_of rfl)) (seq_nx (for_of hr i1) (seq_rt (ret_of (e1_of (v_of rfl) rfl))))), i2, i3⟩
end K47

namespace K47
open PySem PySem.Spec PyProof.Rows L2 DL
theorem atI_last {α : Type} (xs : List α) (x : α) : atI (xs ++ [x]) (-1) = some x := by
  show (ixN (xs ++ [x]).length (-1)).bind (fun j => (xs ++ [x])[j]?) = some x
  unfold ixN
  have e : ¬ ((0 : Int) ≤ -1) := by omega
  have e2 : -(((xs ++ [x]).length : Nat) : Int) ≤ -1 := by rw [List.length_append, List.length_singleton]; omega
  have e3 : ((-1 : Int) + ((xs ++ [x]).length : Nat)).toNat = xs.length := by rw [List.length_append, List.length_singleton]; omega
  rw [if_neg e, if_pos e2, Option.bind_some, e3, List.getElem?_append_right (Nat.le_refl _), Nat.sub_self]; rfl
theorem nice_prs (ps : List (Nat × Int)) : nice 2 (.lst (ps.map prN)) = true := by
  show (ps.map prN).all (nice 1) = true
  rw [List.all_eq_true]
  intro d hd
  obtain ⟨p, _, rfl⟩ := List.mem_map.mp hd
  rfl
def pairsBody : Sx := (sForget [3, 4] (sSeq (sSet 4 (eCall m__law_step (aC (eV 0) aN))) (sSeq (sIf (DL.tAnd (eT (e2 dNe (eV 2) (eLst aN))) (eT (e2 dEq (eCall m__law_roll (aC (eV 0) (aC (eC (.int 3)) aN))) (eC (.int 0))))) (sSeq (sSet 4 (e2 (dInt2 iMul) (e2 dIx (e2 dIx (eV 2) (e1 dNeg (eC (.int 1)))) (eC (.int 0))) (e2 dIx (e2 dIx (eV 2) (e1 dNeg (eC (.int 1)))) (eC (.int 1))))) sNx) sNx) (sSeq (sApp 2 (eTup (aC (eV 3) (aC (eV 4) aN)))) sNx))))
theorem p_pairs_go (x : D) : ∀ (ms : List Nat) (ps : List (Nat × Int)) (p : Int × Int), (∀ m ∈ ms, m ≤ 6) → (∀ y ∈ ps, y.1 ≤ 6) → ps.length + ms.length ≤ 5 → ∃ (ps' : List (Nat × Int)) (q : Int × Int),
    forGo (bN 3) pairsBody (nD ms) [some .cup, some x, some (.lst (ps.map prN)), none, none] (some p) = .ok (.nx [some .cup, some x, some (.lst (ps'.map prN)), none, none]) (some q) ∧ ps'.map (·.1) = ps.map (·.1) ++ ms
  | [], ps, p, _, _, _ => ⟨ps, p, rfl, by rw [List.append_nil]⟩
  | m :: ms, ps, p, h, h', hl => by
    obtain ⟨t, q, hq⟩ := p__law_step p
    have hs : sSet 4 (eCall m__law_step (aC (eV 0) aN)) [some .cup, some x, some (.lst (ps.map prN)), some (.int (m : Nat)), none] (some p) = .ok (.nx [some .cup, some x, some (.lst (ps.map prN)), some (.int (m : Nat)), some (.int t)]) (some q) :=
      set_of (call_of (aC_of (v_of rfl) rfl) hq)
    have hnn : eT (e2 dNe (eV 2) (eLst aN)) [some .cup, some x, some (.lst (ps.map prN)), some (.int (m : Nat)), some (.int t)] (some q) = .ok (!(ps.map prN).isEmpty) (some q) := eT_of (e2_of (v_of rfl) (lst_of rfl) (dNe_nil (nice_prs ps) (by decide)))
    -- what the turn leaves
    have mid : ∃ (t' : Int) (q' : Int × Int), (sIf (DL.tAnd (eT (e2 dNe (eV 2) (eLst aN))) (eT (e2 dEq (eCall m__law_roll (aC (eV 0) (aC (eC (.int 3)) aN))) (eC (.int 0))))) (sSeq (sSet 4 (e2 (dInt2 iMul) (e2 dIx (e2 dIx (eV 2) (e1 dNeg (eC (.int 1)))) (eC (.int 0))) (e2 dIx (e2 dIx (eV 2) (e1 dNeg (eC (.int 1)))) (eC (.int 1))))) sNx) sNx)
        [some .cup, some x, some (.lst (ps.map prN)), some (.int (m : Nat)), some (.int t)] (some q) = .ok (.nx [some .cup, some x, some (.lst (ps.map prN)), some (.int (m : Nat)), some (.int t')]) (some q') := by
      rcases List.eq_nil_or_concat ps with e | ⟨ps0, y, e⟩
      · subst e
        exact ⟨t, q, if_f (tAnd_of (k := false) (j := false) hnn fun z => nomatch z) rfl⟩
      · rw [List.concat_eq_append] at e
        subst e
        have hne : (!((ps0 ++ [y]).map prN).isEmpty) = true := by rw [List.map_append]; simp
        rw [hne] at hnn
        obtain ⟨r, q2, hr, _⟩ := p__law_roll q.1 q.2 3 (by decide) (by decide)
        have hd : eT (e2 dEq (eCall m__law_roll (aC (eV 0) (aC (eC (.int 3)) aN))) (eC (.int 0))) [some .cup, some x, some (.lst ((ps0 ++ [y]).map prN)), some (.int (m : Nat)), some (.int t)] (some q) = .ok ((r : Int) == 0) (some q2) :=
          eT_of (e2_of (call_of (aC_of (v_of rfl) (aC_of rfl rfl)) hr) rfl (dEq_int _ _))
        have ht : (DL.tAnd (eT (e2 dNe (eV 2) (eLst aN))) (eT (e2 dEq (eCall m__law_roll (aC (eV 0) (aC (eC (.int 3)) aN))) (eC (.int 0))))) [some .cup, some x, some (.lst ((ps0 ++ [y]).map prN)), some (.int (m : Nat)), some (.int t)] (some q) = .ok ((r : Int) == 0) (some q2) := by
          unfold DL.tAnd
          rw [hnn, bind_ok]; exact hd
        cases hz : ((r : Int) == 0) with
        | false => rw [hz] at ht; exact ⟨t, q2, if_f ht rfl⟩
        | true =>
          rw [hz] at ht
          have hix : dIx (.lst ((ps0 ++ [y]).map prN)) (.int (-1)) = some (prN y) := by
            show atI ((ps0 ++ [y]).map prN) (-1) = _
            rw [List.map_append]
            exact atI_last _ _
          have hy : y.1 ≤ 6 := h' y (List.mem_append_right _ List.mem_cons_self)
          exact ⟨_, q2, if_t ht (seq_nx (set_of (e2_of (e2_of (e2_of (v_of rfl) (e1_of rfl rfl) hix) rfl rfl) (e2_of (e2_of (v_of rfl) (e1_of rfl rfl) hix) rfl rfl) (mul_nat y.1 y.2 (by omega)))) rfl)⟩
    obtain ⟨t', q', hmid⟩ := mid
    obtain ⟨ps', q2, i1, i2⟩ := p_pairs_go x ms (ps ++ [(m, t')]) q' (fun y hy => h y (List.mem_cons_of_mem _ hy)) (fun y hy => (List.mem_append.mp hy).elim (h' y) fun z => by
      have : y = (m, t') := by simpa using z
      rw [this]; exact h m List.mem_cons_self) (by rw [List.length_append, List.length_singleton]; rw [List.length_cons] at hl; omega)
    refine ⟨ps', q2, ?_, by rw [i2, List.map_append, List.append_assoc]; rfl⟩
    have e : ps.map prN ++ [prN (m, t')] = (ps ++ [(m, t')]).map prN := by rw [List.map_append]; rfl
    rw [← e] at i1
    exact forGo_cons rfl (Eq.trans (forget_nx (seq_nx hs (seq_nx hmid (seq_nx (app_of rfl (tup_of (aC_of (v_of rfl) (aC_of (v_of rfl) rfl))) (room_le (by rw [List.length_map]; rw [List.length_cons] at hl; omega))) rfl)))) rfl) i1
theorem p__law_pairs (ms : List Nat) (p : Int × Int) (h : ∀ m ∈ ms, m ≤ 6) (hl : ms.length ≤ 5) : ∃ (ps : List (Nat × Int)) (q : Int × Int), m__law_pairs [.cup, .tup (nD ms)] (some p) = .ok (.tup (ps.map prN)) (some q) ∧ ps.map (·.1) = ms := by
  obtain ⟨ps, q, i1, i2⟩ := p_pairs_go (.tup (nD ms)) ms [] p h (fun y hy => nomatch hy) (by simpa using hl)
  exact ⟨ps, q, def_rt (seq_nx (set_of (lst_of rfl)) (seq_nx (for_of (seqI_of (v_of rfl) rfl) i1) (seq_rt (ret_of (e1_of (v_of rfl) rfl))))), by simpa using i2⟩
theorem p__law_walk (p : Int × Int) : ∃ (s : Int) (ps : List (Nat × Int)) (q : Int × Int), m__law_walk [.cup, .int 200] (some p) = .ok (wD s ps) (some q) ∧ Good ps ∧ nprod (ps.map (·.1)) ≤ 200 := by
  obtain ⟨x, hx, q1, h1⟩ := p__law_some (ds := iD [0, 0, 0, 1, 5, -3, 100]) p (by decide) (by decide)
  obtain ⟨s, _, rfl⟩ := List.mem_map.mp hx
  obtain ⟨ms, q2, h2, hz, hl⟩ := p__law_sizes q1
  obtain ⟨ps, q3, h3, hp⟩ := p__law_pairs ms q2 (fun m hm => (hz.pos m hm).2) hl
  refine ⟨s, ps, q3, def_rt (seq_rt (ret_of (tup_of (aC_of (call_of (aC_of (v_of rfl) (aC_of rfl rfl)) h1) (aC_of (call_of (aC_of (v_of rfl) (aC_of (call_of (aC_of (v_of rfl) (aC_of (v_of rfl) rfl)) h2) rfl)) h3) rfl))))), ⟨?_, fun y hy => ?_, ?_⟩, by rw [hp]; exact hz.prod⟩
  · rw [← List.length_map (f := (·.1)), hp]; omega
  · have := hz.pos y.1 (by rw [← hp]; exact List.mem_map.mpr ⟨y, hy, rfl⟩)
    omega
  · rw [hp]; have := hz.prod; omega
end K47

namespace K47
open PySem PySem.Spec PyProof.Rows L2 DL
def meet (ns : List Int) (a b : Nat) : Bool := (decide (a < b) && decide (b < ns.length)) && (ns.getD a 0 == ns.getD b 0)
section
variable {ps : List (Nat × Int)} (G : Good ps) (s : Int) (c : C)
include G
theorem lst_pos : 0 < (lst s ps).length := by rw [lst_len]; exact nprod_pos _ fun m hm => (G.ms m hm).1
theorem p_is_meeting_two (a b : Nat) : m_is_meeting [wD s ps, .tup [.int (a : Nat), .int (b : Nat)]] c = .ok (.bl (meet (lst s ps) a b)) c := by
  have hlen := lst_ok G s
  have hpos := lst_pos G s
  have h2 : e1 dAll (eLc (iSeq (eV 1)) [3] (bN 3) DL.tYes (eCall m_is_number (aC (eV 3) (aC (eC (.int 0)) (aC (e2 dSub (e1 dLenA (eV 2)) (eC (.int 1))) aN))))) [some (wD s ps), some (.tup [.int (a : Nat), .int (b : Nat)]), some (.tup (iD (lst s ps))), none] c =
      .ok (.bl ([a, b].all fun k => decide ((0 : Int) ≤ (k : Nat)) && decide (((k : Nat) : Int) ≤ ((lst s ps).length : Nat) - 1))) c :=
    e1_of (lc_all (fun (k : Nat) => D.int (k : Nat)) (fun k => .bl (decide ((0 : Int) ≤ (k : Nat)) && decide (((k : Nat) : Int) ≤ ((lst s ps).length : Nat) - 1))) (xs := [a, b]) (seqI_of (v_of rfl) rfl) rfl fun k _ => ⟨_, rfl, call_of (aC_of (v_of rfl) (aC_of rfl (aC_of (e2_of (e1_of (v_of rfl) rfl) rfl rfl) rfl))) (by
      rw [p_is_number, List.length_map])⟩) (dAll_gen _ _)
  refine def_rt (seq_nx (drop_of (call_of (aC_of (v_of rfl) rfl) (p_need_walk G s c))) (seq_nx (set_of (call_of (aC_of (v_of rfl) rfl) (p_list_in G s c))) ?_))
  by_cases hin : a < (lst s ps).length ∧ b < (lst s ps).length
  · have e : ([a, b].all fun k => decide ((0 : Int) ≤ (k : Nat)) && decide (((k : Nat) : Int) ≤ ((lst s ps).length : Nat) - 1)) = true := by
      rw [List.all_eq_true]
      intro k hk
      have : k = a ∨ k = b := by simpa using hk
      rw [decide_eq_true (by omega), decide_eq_true (by omega)]; rfl
    rw [e] at h2
    have em : meet (lst s ps) a b = (decide ((a : Int) < (b : Nat)) && ((lst s ps).getD a 0 == (lst s ps).getD b 0)) := by
      unfold meet
      rw [decide_eq_true hin.2, Bool.and_true]
      congr 1
      exact decide_eq_decide.mpr (by omega)
    rw [em]
    exact seq_nx (if_f (tOr_of (k := false) (j := false) (tNot_of (k := true) (eT_of (call_of (aC_of (v_of rfl) (aC_of rfl (aC_of rfl rfl))) ((p_is_tuple_of _ _ _ _).trans rfl)))) fun _ => tNot_of (k := true) (eT_of h2)) rfl)
      (seq_rt (ret_of (eAnd_of (e2_of (e2_of (v_of rfl) rfl rfl) (e2_of (v_of rfl) rfl rfl) rfl) fun _ => e2_of (e2_of (v_of rfl) (e2_of (v_of rfl) rfl rfl) (ix_nat hin.1)) (e2_of (v_of rfl) (e2_of (v_of rfl) rfl rfl) (ix_nat hin.2)) (dEq_int _ _))))
  · have e : ([a, b].all fun k => decide ((0 : Int) ≤ (k : Nat)) && decide (((k : Nat) : Int) ≤ ((lst s ps).length : Nat) - 1)) = false := by
      rw [List.all_eq_false]
      by_cases ha : a < (lst s ps).length
      · refine ⟨b, by simp, ?_⟩
        rw [decide_eq_true (by omega : (0 : Int) ≤ (b : Nat)), decide_eq_false (by omega : ¬ ((b : Nat) : Int) ≤ ((lst s ps).length : Nat) - 1)]; decide
      · refine ⟨a, by simp, ?_⟩
        rw [decide_eq_true (by omega : (0 : Int) ≤ (a : Nat)), decide_eq_false (by omega : ¬ ((a : Nat) : Int) ≤ ((lst s ps).length : Nat) - 1)]; decide
    rw [e] at h2
    have em : meet (lst s ps) a b = false := by
      unfold meet
      by_cases h3 : b < (lst s ps).length
      · rw [decide_eq_false (by omega : ¬ a < b)]; rfl
      · rw [decide_eq_false h3, Bool.and_false]; rfl
    rw [em]
    exact seq_rt (if_t (tOr_of (k := false) (j := true) (tNot_of (k := true) (eT_of (call_of (aC_of (v_of rfl) (aC_of rfl (aC_of rfl rfl))) ((p_is_tuple_of _ _ _ _).trans rfl)))) fun _ => tNot_of (k := false) (eT_of h2)) (seq_rt (ret_of rfl)))
theorem p_is_meeting_no {d : D} (h : m_is_tuple_of [d, .int 2, .int 2] c = .ok (.bl false) c) : m_is_meeting [wD s ps, d] c = .ok (.bl false) c :=
  def_rt (seq_nx (drop_of (call_of (aC_of (v_of rfl) rfl) (p_need_walk G s c))) (seq_nx (set_of (call_of (aC_of (v_of rfl) rfl) (p_list_in G s c))) (seq_rt (if_t (tOr_of (k := true) (j := true) (tNot_of (k := false) (eT_of (call_of (aC_of (v_of rfl) (aC_of rfl (aC_of rfl rfl))) h))) fun z => nomatch z) (seq_rt (ret_of rfl))))))
theorem p_difference_none (h : lawFirst (lst s ps) = none) : m_difference_row [wD s ps] c = .ok .non c := by
  have hf := p_first_in (lst s ps) c (by have := lst_ok G s; omega)
  rw [h] at hf
  exact def_rt (seq_nx (drop_of (call_of (aC_of (v_of rfl) rfl) (p_need_walk G s c))) (seq_nx (set_of (call_of (aC_of (call_of (aC_of (v_of rfl) rfl) (p_list_in G s c)) rfl) hf)) (seq_rt (if_t (eT_of (e2_of (v_of rfl) rfl rfl)) (seq_rt (ret_of rfl))))))
theorem zip_digs (ms : List Nat) (p q : Nat) : dZip2 (.tup (nD (digs ms p))) (.tup (nD (digs ms q))) = some (((digs ms p).zip (digs ms q)).map fun z => D.raw [.int (z.1 : Nat), .int (z.2 : Nat)]) :=
  congrArg some (dZip_gen (fun (n : Nat) => D.int n) (fun (n : Nat) => D.int n) _ _)
theorem p_difference_some {p q : Nat} (h : lawFirst (lst s ps) = some (p, q)) : m_difference_row [wD s ps] c = .ok (.tup (iD (rowD ps p q))) c := by
  have hf := p_first_in (lst s ps) c (by have := lst_ok G s; omega)
  rw [h] at hf
  have hlen := G.len
  have hd : ∀ k : Nat, m_digits_in [.tup (szD ps), .int (k : Nat)] c = .ok (.tup (nD (digs (ps.map (·.1)) k))) c := fun k => by
    rw [szD_n]; exact p_digits_in _ k c G.ms (by rw [List.length_map]; omega)
  have hrow : D.tup (((digs (ps.map (·.1)) p).zip (digs (ps.map (·.1)) q)).map fun z => D.int ((z.2 : Int) - z.1)) = .tup (iD (rowD ps p q)) := by
    unfold rowD
    rw [iD, List.map_map]; rfl
  rw [← hrow]
  refine def_rt (seq_nx (drop_of (call_of (aC_of (v_of rfl) rfl) (p_need_walk G s c))) (seq_nx (set_of (call_of (aC_of (call_of (aC_of (v_of rfl) rfl) (p_list_in G s c)) rfl) hf)) (seq_nx (if_f (eT_of (e2_of (v_of rfl) rfl rfl)) rfl)
    (seq_nx (bd_of (lc_all (fun (k : Nat) => D.int (k : Nat)) (fun k => .tup (nD (digs (ps.map (·.1)) k))) (xs := [p, q]) (seqI_of (v_of rfl) rfl) rfl fun k _ => ⟨_, rfl, call_of (aC_of (call_of (aC_of (e2_of (v_of rfl) rfl rfl) rfl) (p_sizes_in G c)) (aC_of (v_of rfl) rfl)) (hd k)⟩) rfl)
      (seq_rt (ret_of (e1_of (lc_all (fun z : Nat × Nat => D.raw [.int (z.1 : Nat), .int (z.2 : Nat)]) (fun z => .int ((z.2 : Int) - z.1)) (zip_of (v_of rfl) (v_of rfl) (zip_digs G _ p q)) (room_le (by rw [List.length_zip, digs_len, List.length_map]; omega)) fun z _ => ⟨_, rfl, e2_of (v_of rfl) (v_of rfl) rfl⟩) rfl)))))))
end
theorem lc_cup {α : Type} {env : En} {g : Bd} {el : Ex} {mk : α → D} : ∀ (xs : List α), (∀ x ∈ xs, ∀ p : Int × Int, ∃ (e1 : En) (r : Int) (q : Int × Int), g (mk x) env = some e1 ∧ el e1 (some p) = .ok (.int r) (some q)) →
    ∀ p : Int × Int, ∃ (rs : List Int) (q : Int × Int), lcGo env g DL.tYes el (xs.map mk) (some p) = .ok (iD rs) (some q) ∧ rs.length = xs.length
  | [], _, p => ⟨[], p, rfl, rfl⟩
  | x :: xs, h, p => by
    obtain ⟨e1, r, q, h1, h2⟩ := h x List.mem_cons_self p
    obtain ⟨rs, q', i1, i2⟩ := lc_cup xs (fun y hy => h y (List.mem_cons_of_mem _ hy)) q
    refine ⟨r :: rs, q', ?_, by rw [List.length_cons, List.length_cons, i2]⟩
    rw [List.map_cons]
    unfold lcGo
    rw [h1]
    show ((el e1 (some p)).bindB fun y c2 => (lcGo env g DL.tYes el (xs.map mk) c2).bind fun ys c3 => .ok (y :: ys) c3) = _
    rw [h2, bindB_ok, i1]; rfl
theorem lk_int (i : Int) : lk 29 (.int i) = true := rfl
end K47

namespace K47
open PySem PySem.Spec PyProof.Rows L2 DL
theorem lcup_of {α : Type} {env : En} {it : Exs} {own : List Nat} {g : Bd} {el : Ex} {p : Int × Int} (mk : α → D) {xs : List α} (hi : it env (some p) = .ok (xs.map mk) (some p)) (hr : room xs.length = true)
    (h : ∀ x ∈ xs, ∀ p : Int × Int, ∃ (e1 : En) (r : Int) (q : Int × Int), g (mk x) (wipeE env own) = some e1 ∧ el e1 (some p) = .ok (.int r) (some q)) :
    ∃ (rs : List Int) (q : Int × Int), eLc it own g DL.tYes el env (some p) = .ok (.lst (iD rs)) (some q) ∧ rs.length = xs.length := by
  obtain ⟨rs, q, h1, h2⟩ := lc_cup xs h p
  refine ⟨rs, q, ?_, h2⟩
  unfold eLc
  rw [hi, bind_ok, List.length_map, hr]
  show (lcGo (wipeE env own) g DL.tYes el (xs.map mk) (some p)).bind _ = _
  rw [h1]; rfl
def nearBody : Sx := (sForget [12, 13] (sSeq (sSet 13 (e1 dTuple (eLc (iSeq (eV 4)) [5] (bN 5) DL.tYes (e2 dSub (eCall m__law_roll (aC (eV 0) (aC (e2 dCat (e2 (dInt2 iMul) (eC (.int 2)) (eV 5)) (eC (.int 1))) aN))) (eV 5))))) (sSeq (sIf (DL.tNot (eT (eCall m__law_like (aC (eCall m_is_difference_row (aC (eV 1) (aC (eV 13) aN))) (aC (eCall m__law_is_row (aC (eV 1) (aC (eV 13) aN))) aN))))) (sSeq (sRet (eC (.bl false))) sNx) sNx) sNx)))
section
variable {ps : List (Nat × Int)} (G : Good ps) (s : Int)
include G
theorem near_go (x2 x3 x5 x6 x7 x8 x9 x10 x11 : Option D) : ∀ (ks : List D) (p : Int × Int), ∃ q : Int × Int, forGo (bN 12) nearBody ks [some .cup, some (wD s ps), x2, x3, some (.lst (szD ps)), x5, x6, x7, x8, x9, x10, x11, none, none] (some p) =
    .ok (.nx [some .cup, some (wD s ps), x2, x3, some (.lst (szD ps)), x5, x6, x7, x8, x9, x10, x11, none, none]) (some q)
  | [], p => ⟨p, rfl⟩
  | k :: ks, p => by
    have hl := G.len
    obtain ⟨rs, q, h1, h2⟩ := lcup_of (env := [some .cup, some (wD s ps), x2, x3, some (.lst (szD ps)), x5, x6, x7, x8, x9, x10, x11, some k, none]) (it := iSeq (eV 4)) (own := [5]) (g := bN 5) (p := p) (el := e2 dSub (eCall m__law_roll (aC (eV 0) (aC (e2 dCat (e2 (dInt2 iMul) (eC (.int 2)) (eV 5)) (eC (.int 1))) aN))) (eV 5))
      (fun y : Nat × Int => D.int (y.1 : Nat)) (seqI_of (v_of rfl) rfl) (room_le (by omega)) fun y hy p => by
        have hy' := G.pos y hy
        obtain ⟨r, q, hr, _⟩ := p__law_roll p.1 p.2 (2 * y.1 + 1) (by omega) (by omega)
        have e : ((2 * y.1 + 1 : Nat) : Int) = 2 * (y.1 : Int) + 1 := by omega
        rw [e] at hr
        exact ⟨_, _, q, rfl, e2_of (call_of (aC_of (v_of rfl) (aC_of (e2_of (e2_of rfl (v_of rfl) (mul_l 2 (y.1 : Nat) (by decide) (by decide))) rfl rfl) rfl)) hr) (v_of rfl) rfl⟩
    have ha := p_is_difference_row G s (some q) (row := rs) h2
    have hb := p__law_is_row G s (some q) (row := rs) h2
    obtain ⟨q', ih⟩ := near_go x2 x3 x5 x6 x7 x8 x9 x10 x11 ks q
    exact ⟨q', forGo_cons rfl (Eq.trans (forget_nx (seq_nx (set_of (e1_of h1 rfl)) (seq_nx (if_f (tNot_of (k := true) (eT_of (call_of (aC_of (call_of (aC_of (v_of rfl) (aC_of (v_of rfl) rfl)) ha) (aC_of (call_of (aC_of (v_of rfl) (aC_of (v_of rfl) rfl)) hb) rfl)) (p__law_like rfl)))) rfl) rfl))) rfl) ih⟩
theorem ps_pos {a b : Nat} (h : lawFirst (lst s ps) = some (a, b)) : 0 < ps.length := by
  have F := lawFirst_some h
  obtain ⟨h1, h2, _⟩ := same_val F.same
  cases ps with
  | nil => simp only [List.map_nil, nprod] at h1 h2; have := F.lt; omega
  | cons y ys => simp
theorem p__law_rows_right (p : Int × Int) : ∃ q : Int × Int, m__law_rows_right [.cup, wD s ps, optD (lawFirst (lst s ps))] (some p) = .ok (.bl true) (some q) := by
  have hl := G.len
  have hsz : ∀ (x3 : Option D) (d : D), eLc (iSeq (e2 dIx (eV 1) (eC (.int 1)))) [5, 6] (bT (bsC (bN 5) (bsC (bN 6) bsN))) DL.tYes (eV 5) [some .cup, some (wD s ps), some d, x3, none, none, none, none, none, none, none, none, none, none] (some p) = .ok (.lst (szD ps)) (some p) := fun x3 d =>
    lc_all prN (fun y => .int (y.1 : Nat)) (seqI_of (e2_of (v_of rfl) rfl rfl) rfl) (room_le (by omega)) fun y _ => ⟨_, rfl, v_of rfl⟩
  have hrng : ∀ env : En, iRange1 (eC (.int 6)) env (some p) = .ok (nD (List.range 6)) (some p) := fun env => rfl
  cases ho : lawFirst (lst s ps) with
  | none =>
    obtain ⟨q, hn⟩ := near_go G s (some .non) (some .non) none none none none none none none (nD (List.range 6)) p
    exact ⟨q, def_rt (seq_nx (set_of (call_of (aC_of (v_of rfl) rfl) (p_difference_none G s _ ho))) (seq_nx (if_f (eT_of (e2_of (e2_of (v_of rfl) rfl rfl) (e2_of (v_of rfl) rfl rfl) (dNe_bl true true))) rfl) (seq_nx (set_of (hsz _ _)) (seq_nx (if_f (eT_of (e2_of (v_of rfl) rfl rfl)) rfl)
      (seq_nx (for_of (hrng _) hn) (seq_rt (ret_of rfl)))))))⟩
  | some ab =>
    obtain ⟨a, b⟩ := ab
    have F := lawFirst_some ho
    obtain ⟨ha, hb, hv⟩ := same_val F.same
    have hpos := ps_pos G s ho
    have hrow := rowD_len ps a b
    have hrow' := rowD_len ps b a
    have ok1 := rowD_ok (ps := ps) G.p0 ha hb (Nat.ne_of_lt F.lt) hv
    have ok2 := rowD_ok (ps := ps) G.p0 hb ha (Nat.ne_of_gt F.lt) hv.symm
    obtain ⟨q, hn⟩ := near_go G s (some (optD (some (a, b)))) (some (.tup (iD (rowD ps a b)))) none none none (some (.tup (iD (rowD ps b a)))) (some (.tup (iD (rowD ps a b)))) none none (nD (List.range 6)) p
    have r : room (rowD ps a b).length = true := room_le (by omega)
    have hsort : ∀ x : Int, m__law_sort [.int x] (some p) = .ok (.int 2) (some p) := fun _ => rfl
    let E3 : En := [some .cup, some (wD s ps), some (optD (some (a, b))), some (.tup (iD (rowD ps a b))), some (.lst (szD ps)), none, none, none, none, none, none, none, none, none]
    have h1 : eLc (iSeq (eV 3)) [7] (bN 7) (eT (e2 dNe (eCall m__law_sort (aC (eV 7) aN)) (eC (.int 2)))) (eV 7) E3 (some p) = .ok (.lst []) (some p) := by
      have q1 := lc_of (c1 := some p) (env := E3) (c := some p) (it := iSeq (eV 3)) (own := [7]) (g := bN 7) (t := eT (e2 dNe (eCall m__law_sort (aC (eV 7) aN)) (eC (.int 2)))) (el := eV 7) D.int (fun _ => false) D.int (xs := rowD ps a b) (seqI_of (v_of rfl) rfl) r
        fun x _ => ⟨_, rfl, eT_of (e2_of (call_of (aC_of (v_of rfl) rfl) (hsort x)) rfl (dNe_int 2 2)), fun z => nomatch z⟩
      have e0 : (rowD ps a b).filter (fun _ => false) = [] := List.filter_eq_nil_iff.mpr fun _ _ z => nomatch z
      rw [e0] at q1
      exact q1
    have h2 : (DL.tOr (DL.tNot (eT (e1 (dIsi "tuple") (eV 3)))) (DL.tOr (eT (e2 dNe (eLc (iSeq (eV 3)) [7] (bN 7) (eT (e2 dNe (eCall m__law_sort (aC (eV 7) aN)) (eC (.int 2)))) (eV 7)) (eLst aN))) (DL.tNot (eT (eCall m__law_is_row (aC (eV 1) (aC (eV 3) aN))))))) E3 (some p) = .ok false (some p) :=
      tOr_of (k := false) (j := false) (tNot_of (k := true) (eT_of (e1_of (v_of rfl) rfl))) fun _ => tOr_of (k := false) (j := false) (eT_of (e2_of h1 (lst_of rfl) (dNe_nil (k := 1) (ds := []) rfl (by decide)))) fun _ => tNot_of (k := true) (eT_of (call_of (aC_of (v_of rfl) (aC_of (v_of rfl) rfl)) ((p__law_is_row G s _ hrow).trans (by rw [ok1]))))
    have h3 : e1 dTuple (eLc (iSeq (eV 3)) [7] (bN 7) DL.tYes (e1 dNeg (eV 7))) E3 (some p) = .ok (.tup (iD (rowD ps b a))) (some p) := by
      refine e1_of (lc_all D.int (fun x => .int (-x)) (seqI_of (v_of rfl) rfl) r fun x _ => ⟨_, rfl, e1_of (v_of rfl) rfl⟩) ?_
      rw [← rowD_neg ps a b, iD, List.map_map]; rfl
    let E8 : En := [some .cup, some (wD s ps), some (optD (some (a, b))), some (.tup (iD (rowD ps a b))), some (.lst (szD ps)), none, none, none, some (.tup (iD (rowD ps b a))), none, none, none, none, none]
    have hdg : ∀ k : Nat, m__law_digits [.lst (szD ps), .int (k : Nat)] (some p) = .ok (.tup (nD (digs (ps.map (·.1)) k))) (some p) := fun k => by
      rw [szD_n]; exact p__law_digits _ k _ G.ms (by rw [List.length_map]; omega)
    have h4 : e1 dTuple (eLc (iZip (eCall m__law_digits (aC (eV 4) (aC (e2 dIx (eV 2) (eC (.int 0))) aN))) (eCall m__law_digits (aC (eV 4) (aC (e2 dIx (eV 2) (eC (.int 1))) aN)))) [10, 11] (bT (bsC (bN 10) (bsC (bN 11) bsN))) DL.tYes (e2 dSub (eV 11) (eV 10))) E8 (some p) = .ok (.tup (iD (rowD ps a b))) (some p) := by
      refine e1_of (lc_all (fun z : Nat × Nat => D.raw [.int (z.1 : Nat), .int (z.2 : Nat)]) (fun z => .int ((z.2 : Int) - z.1)) (zip_of (call_of (aC_of (v_of rfl) (aC_of (e2_of (v_of rfl) rfl rfl) rfl)) (hdg a)) (call_of (aC_of (v_of rfl) (aC_of (e2_of (v_of rfl) rfl rfl) rfl)) (hdg b)) (zip_digs G _ a b))
        (room_le (by rw [List.length_zip, digs_len, List.length_map]; omega)) fun z _ => ⟨_, rfl, e2_of (v_of rfl) (v_of rfl) rfl⟩) ?_
      unfold rowD
      rw [iD, List.map_map]; rfl
    let E9 : En := [some .cup, some (wD s ps), some (optD (some (a, b))), some (.tup (iD (rowD ps a b))), some (.lst (szD ps)), none, none, none, some (.tup (iD (rowD ps b a))), some (.tup (iD (rowD ps a b))), none, none, none, none]
    have hcat : dCat (.tup (iD (rowD ps a b))) (.tup [.int 0]) = some (.tup (iD (rowD ps a b) ++ [D.int 0])) := by
      show (match room ((iD (rowD ps a b)).length + 1) with | true => some (D.tup (iD (rowD ps a b) ++ [D.int 0])) | false => none) = _
      rw [room_le (by rw [List.length_map]; omega)]
    have hsl := sl_from (iD (rowD ps a b)) 1
    have h5 : eLc (iSeq (eTup (aC (eV 3) (aC (eV 8) (aC (eV 9) (aC (e1 dList (eV 3)) (aC (e2 dCat (eV 3) (eTup (aC (eC (.int 0)) aN))) (aC (eSl dSl (eV 3) (oS (eC (.int 1))) oN) aN)))))))) [7] (bN 7) DL.tYes (eCall m_is_difference_row (aC (eV 1) (aC (eV 7) aN))) E9 (some p) =
        .ok (.lst [.bl true, .bl true, .bl true, .bl false, .bl false, .bl false]) (some p) := by
      refine lc_all (fun z : D × Bool => z.1) (fun z => .bl z.2) (xs := [(.tup (iD (rowD ps a b)), true), (.tup (iD (rowD ps b a)), true), (.tup (iD (rowD ps a b)), true), (.lst (iD (rowD ps a b)), false), (.tup (iD (rowD ps a b) ++ [D.int 0]), false), (.tup ((iD (rowD ps a b)).drop 1), false)])
        (seqI_of (tup_of (aC_of (v_of rfl) (aC_of (v_of rfl) (aC_of (v_of rfl) (aC_of (e1_of (v_of rfl) rfl) (aC_of (e2_of (v_of rfl) (tup_of (aC_of rfl rfl)) hcat) (aC_of (sl_of (v_of rfl) (oS_of rfl) rfl hsl) rfl))))))) rfl) rfl fun z hz => ⟨_, rfl, call_of (aC_of (v_of rfl) (aC_of (v_of rfl) rfl)) ?_⟩
      simp only [List.mem_cons, List.not_mem_nil, or_false] at hz
      rcases hz with e | e | e | e | e | e
      · subst e; exact (p_is_difference_row G s _ hrow).trans (by rw [ok1])
      · subst e; exact (p_is_difference_row G s _ hrow').trans (by rw [ok2])
      · subst e; exact (p_is_difference_row G s _ hrow).trans (by rw [ok1])
      · subst e; exact p_is_difference_lst G s _
      · subst e; exact p_is_difference_len G s _ (by rw [List.length_append, List.length_map]; simp; omega)
      · subst e; exact p_is_difference_len G s _ (by rw [List.length_drop, List.length_map]; omega)
    exact ⟨q, def_rt (seq_nx (set_of (call_of (aC_of (v_of rfl) rfl) (p_difference_some G s _ ho))) (seq_nx (if_f (eT_of (e2_of (e2_of (v_of rfl) rfl rfl) (e2_of (v_of rfl) rfl rfl) (dNe_bl false false))) rfl) (seq_nx (set_of (hsz _ _)) (seq_nx (if_t (eT_of (e2_of (v_of rfl) rfl rfl))
      (seq_nx (if_f h2 rfl) (seq_nx (set_of h3) (seq_nx (set_of h4) (seq_nx (if_f (tNot_of (k := true) (eT_of (call_of (aC_of h5 (aC_of rfl rfl)) (p__law_like rfl)))) rfl) rfl)))))
      (seq_nx (for_of (hrng _) hn) (seq_rt (ret_of rfl)))))))⟩
end
end K47

namespace K47
open PySem PySem.Spec PyProof.Rows L2 DL
theorem count_int (ns : List Int) (k : Int) : dCount (.tup (iD ns)) (.int k) = some (.int (ns.count k : Nat)) := by
  show (dInts (iD ns)).map (fun ns => D.int (ns.count k : Nat)) = _
  rw [dInts_map]; rfl
theorem sortSet_int {ns : List Int} (h : ns.length ≤ 4000) : dSortSet (.tup (iD ns)) = some (.lst (iD (usort ns))) := by
  show ((dInts (iD ns)).bind fun ns => match decide (ns.length ≤ 4000) with | true => some (D.lst ((usort ns).map D.int)) | false => none) = _
  rw [dInts_map, Option.bind_some, decide_eq_true h]
theorem lk_nats (l : List Nat) (h : l.length ≤ 100000) : lk 29 (.tup (nD l)) = true := by
  show (room (nD l).length && (nD l).all (lk 28)) = true
  rw [room_le (by rw [List.length_map]; omega), Bool.true_and, List.all_eq_true]
  intro d hd
  obtain ⟨n, _, rfl⟩ := List.mem_map.mp hd
  rfl
def ownBody : Sx := (sSeq (sIf (DL.tNot (eT (eCall m__law_like (aC (eCall m_places_of (aC (eV 1) (aC (eV 6) aN))) (aC (e1 dTuple (eLc (iRange1 (e1 dLenA (eV 2))) [9] (bN 9) (eT (e2 dEq (e2 dIx (eV 2) (eV 9)) (eV 6))) (eV 9))) aN))))) (sSeq (sRet (eC (.bl false))) sNx) sNx) sNx)
def meetBody : Sx := (sForget [10, 11, 12, 13] (sSeq (sPar 11 12 (eCall m__law_roll (aC (eV 0) (aC (e2 dCat (e1 dLenA (eV 2)) (eC (.int 1))) aN))) (eCall m__law_roll (aC (eV 0) (aC (e2 dCat (e1 dLenA (eV 2)) (eC (.int 1))) aN)))) (sSeq (sSet 13 (eAnd (eCh dLt dLt (eV 11) (eV 12) (e1 dLenA (eV 2))) (e2 dEq (e2 dIx (eV 2) (eV 11)) (e2 dIx (eV 2) (e2 dMin2 (eV 12) (e2 dSub (e1 dLenA (eV 2)) (eC (.int 1)))))))) (sSeq (sIf (DL.tNot (eT (eCall m__law_like (aC (eCall m_is_meeting (aC (eV 1) (aC (eTup (aC (eV 11) (aC (eV 12) aN))) aN))) (aC (eV 13) aN))))) (sSeq (sRet (eC (.bl false))) sNx) sNx) sNx))))
section
variable {ps : List (Nat × Int)} (G : Good ps) (s : Int)
include G
theorem occ_law (c : C) (z : Int) (x3 x4 x5 x7 x8 x10 x11 x12 x13 : Option D) : e1 dTuple (eLc (iRange1 (e1 dLenA (eV 2))) [9] (bN 9) (eT (e2 dEq (e2 dIx (eV 2) (eV 9)) (eV 6))) (eV 9)) [some .cup, some (wD s ps), some (.tup (iD (lst s ps))), x3, x4, x5, some (.int z), x7, x8, none, x10, x11, x12, x13] c =
    .ok (.tup (nD (occ z (lst s ps)))) c := by
  have hlen := lst_ok G s
  have hr : iRange1 (e1 dLenA (eV 2)) [some .cup, some (wD s ps), some (.tup (iD (lst s ps))), x3, x4, x5, some (.int z), x7, x8, none, x10, x11, x12, x13] c = .ok (nD (List.range (lst s ps).length)) c := by
    have := rng_of (c1 := c) (env := [some .cup, some (wD s ps), some (.tup (iD (lst s ps))), x3, x4, x5, some (.int z), x7, x8, none, x10, x11, x12, x13]) (c := c) (a := e1 dLenA (eV 2)) (n := ((iD (lst s ps)).length : Nat)) (e1_of (v_of rfl) rfl) ⟨by omega, by rw [List.length_map]; omega⟩
    rw [this, rng_map, List.length_map]
  have q := lc_of (own := [9]) (g := bN 9) (t := eT (e2 dEq (e2 dIx (eV 2) (eV 9)) (eV 6))) (el := eV 9) (fun (n : Nat) => D.int n) (fun k => (lst s ps).getD k 0 == z) (fun (n : Nat) => D.int n) hr (room_le (by rw [List.length_range]; omega))
    fun k hk => ⟨_, rfl, eT_of (e2_of (e2_of (v_of rfl) (v_of rfl) (ix_nat (List.mem_range.mp hk))) (v_of rfl) (dEq_int _ _)), fun _ => v_of rfl⟩
  have e : (List.range (lst s ps).length).filter (fun k => (lst s ps).getD k 0 == z) = occ z (lst s ps) := by
    unfold occ
    refine List.filter_congr fun k hk => ?_
    have hk' := List.mem_range.mp hk
    rw [List.getD_eq_getElem?_getD, List.getElem?_eq_getElem hk']
    by_cases h : (lst s ps)[k] = z
    · simp [h]
    · simp [h]
  rw [e] at q
  exact e1_of q rfl
theorem own_go (c : C) (x3 x4 x5 x7 x8 : Option D) : ∀ (zs : List Int) (x6 : Option D), ∃ x6', forGo (bN 6) ownBody (iD zs) [some .cup, some (wD s ps), some (.tup (iD (lst s ps))), x3, x4, x5, x6, x7, x8, none, none, none, none, none] c =
    .ok (.nx [some .cup, some (wD s ps), some (.tup (iD (lst s ps))), x3, x4, x5, x6', x7, x8, none, none, none, none, none]) c
  | [], x6 => ⟨x6, rfl⟩
  | z :: zs, x6 => by
    obtain ⟨x6', ih⟩ := own_go c x3 x4 x5 x7 x8 zs (some (.int z))
    have hl := lst_ok G s
    have ho := occ_len z (lst s ps)
    exact ⟨x6', forGo_cons rfl (seq_nx (if_f (tNot_of (k := true) (eT_of (call_of (aC_of (call_of (aC_of (v_of rfl) (aC_of (v_of rfl) rfl)) (p_places_of G s c z)) (aC_of (occ_law G s c z x3 x4 x5 x7 x8 none none none none) rfl)) (p__law_like (lk_nats _ (by omega)))))) rfl) rfl) ih⟩
theorem meet_go (x3 x4 x5 x6 x7 x8 x9 : Option D) : ∀ (ks : List D) (p : Int × Int), ∃ q : Int × Int, forGo (bN 10) meetBody ks [some .cup, some (wD s ps), some (.tup (iD (lst s ps))), x3, x4, x5, x6, x7, x8, x9, none, none, none, none] (some p) =
    .ok (.nx [some .cup, some (wD s ps), some (.tup (iD (lst s ps))), x3, x4, x5, x6, x7, x8, x9, none, none, none, none]) (some q)
  | [], p => ⟨p, rfl⟩
  | k :: ks, p => by
    have hlen := lst_ok G s
    have hn : ∀ (k : D) (q : Int × Int), e2 dCat (e1 dLenA (eV 2)) (eC (.int 1)) [some .cup, some (wD s ps), some (.tup (iD (lst s ps))), x3, x4, x5, x6, x7, x8, x9, some k, none, none, none] (some q) = .ok (.int (((lst s ps).length + 1 : Nat) : Int)) (some q) := fun k q => by
      have h0 : e2 dCat (e1 dLenA (eV 2)) (eC (.int 1)) [some .cup, some (wD s ps), some (.tup (iD (lst s ps))), x3, x4, x5, x6, x7, x8, x9, some k, none, none, none] (some q) = .ok (.int ((((iD (lst s ps)).length : Nat) : Int) + 1)) (some q) := e2_of (e1_of (v_of rfl) rfl) rfl rfl
      rw [List.length_map] at h0
      exact h0
    obtain ⟨a, q1, h1, ha⟩ := p__law_roll p.1 p.2 ((lst s ps).length + 1) (by omega) (by omega)
    obtain ⟨b, q2, h2, hb⟩ := p__law_roll q1.1 q1.2 ((lst s ps).length + 1) (by omega) (by omega)
    have hdue : (eAnd (eCh dLt dLt (eV 11) (eV 12) (e1 dLenA (eV 2))) (e2 dEq (e2 dIx (eV 2) (eV 11)) (e2 dIx (eV 2) (e2 dMin2 (eV 12) (e2 dSub (e1 dLenA (eV 2)) (eC (.int 1)))))))
        [some .cup, some (wD s ps), some (.tup (iD (lst s ps))), x3, x4, x5, x6, x7, x8, x9, some k, some (.int (a : Nat)), some (.int (b : Nat)), none] (some q2) = .ok (.bl (meet (lst s ps) a b)) (some q2) := by
      have hch : eCh dLt dLt (eV 11) (eV 12) (e1 dLenA (eV 2)) [some .cup, some (wD s ps), some (.tup (iD (lst s ps))), x3, x4, x5, x6, x7, x8, x9, some k, some (.int (a : Nat)), some (.int (b : Nat)), none] (some q2) =
          .ok (.bl (decide (a < b) && decide (b < (lst s ps).length))) (some q2) := by
        have h0 : eCh dLt dLt (eV 11) (eV 12) (e1 dLenA (eV 2)) [some .cup, some (wD s ps), some (.tup (iD (lst s ps))), x3, x4, x5, x6, x7, x8, x9, some k, some (.int (a : Nat)), some (.int (b : Nat)), none] (some q2) =
          .ok (.bl (decide ((a : Int) < (b : Nat)) && decide ((b : Int) < ((iD (lst s ps)).length : Nat)))) (some q2) := ch_of (v_of rfl) (v_of rfl) rfl (fun _ => e1_of (v_of rfl) rfl) fun _ => rfl
        rw [h0, List.length_map]
        congr 3
        · exact decide_eq_decide.mpr (by omega)
        · exact decide_eq_decide.mpr (by omega)
      refine eAnd_of hch fun hab => ?_
      rw [Bool.and_eq_true, decide_eq_true_eq, decide_eq_true_eq] at hab
      have hm : dMin2 (.int (b : Nat)) (.int (((iD (lst s ps)).length : Nat) - 1)) = some (.int (b : Nat)) := by
        show some (D.int (if (((iD (lst s ps)).length : Nat) : Int) - 1 < (b : Nat) then _ else _)) = _
        rw [if_neg (by rw [List.length_map]; omega)]
      exact e2_of (e2_of (v_of rfl) (v_of rfl) (ix_nat (by omega))) (e2_of (v_of rfl) (e2_of (v_of rfl) (e2_of (e1_of (v_of rfl) rfl) rfl rfl) hm) (ix_nat hab.2)) (dEq_int _ _)
    obtain ⟨q, ih⟩ := meet_go x3 x4 x5 x6 x7 x8 x9 ks q2
    exact ⟨q, forGo_cons rfl (Eq.trans (forget_nx (seq_nx (par_of (call_of (aC_of (v_of rfl) (aC_of (hn k p) rfl)) h1) (call_of (aC_of (v_of rfl) (aC_of (hn k q1) rfl)) h2)) (seq_nx (set_of hdue) (seq_nx (if_f (tNot_of (k := true) (eT_of (call_of (aC_of (call_of (aC_of (v_of rfl) (aC_of (tup_of (aC_of (v_of rfl) (aC_of (v_of rfl) rfl))) rfl)) (p_is_meeting_two G s _ a b)) (aC_of (v_of rfl) rfl)) (p__law_like rfl)))) rfl) rfl)))) rfl) ih⟩
end
end K47

namespace K47
open PySem PySem.Spec PyProof.Rows L2 DL
theorem least_of (ns : List Int) (h : 0 < ns.length) : ∃ n, MostTold ns n := by
  cases hr : toldRows ns with
  | nil =>
    cases ns with
    | nil => cases h
    | cons m ns =>
      have := row_told (ns := m :: ns) (m := m) List.mem_cons_self
      rw [hr] at this; cases this
  | cons p ps =>
    obtain ⟨n, _, M⟩ := told_min hr
    exact ⟨n, M⟩
theorem head_ix (n : Int) (r : List Int) : dIx (.lst (iD (n :: r))) (.int 0) = some (.int n) := by
  show atI (iD (n :: r)) ((0 : Nat) : Int) = _
  rw [atI_nat _ _ (by simp)]; rfl
theorem last_ix (u : Int) (us : List Int) : ∃ z : Int, dIx (.lst (iD (u :: us))) (.int (-1)) = some (.int z) := by
  rcases List.eq_nil_or_concat (u :: us) with e | ⟨l, z, e⟩
  · cases e
  · rw [List.concat_eq_append] at e
    rw [e]
    refine ⟨z, ?_⟩
    show atI (iD (l ++ [z])) (-1) = _
    rw [iD, List.map_append]
    exact atI_last _ _
section
variable {ps : List (Nat × Int)} (G : Good ps) (s : Int)
include G
theorem p__law_right (hz : nprod (ps.map (·.1)) ≤ 200) (p : Int × Int) : ∃ q : Int × Int, m__law_right [.cup, wD s ps] (some p) = .ok (.bl true) (some q) := by
  have hlen : (lst s ps).length ≤ 200 := by rw [lst_len]; exact hz
  have hpos := lst_pos G s
  obtain ⟨n, M⟩ := least_of (lst s ps) hpos
  obtain ⟨u, us, hu⟩ : ∃ u us, usort (lst s ps) = u :: us := by
    cases hus : usort (lst s ps) with
    | nil => rw [usort_nil hus] at hpos; cases hpos
    | cons u us => exact ⟨u, us, rfl⟩
  obtain ⟨hmax, r, hoft⟩ := told_law M hu
  have hul : (usort (lst s ps)).length ≤ 200 := by rw [← posOf_usort]; exact Nat.le_trans (posSt_len _) hlen
  have hroom : room (usort (lst s ps)).length = true := room_le (by omega)
  -- the greatest count
  have h5 : e1 dMax (eLc (iSeq (eV 4)) [6] (bN 6) DL.tYes (eMth dCount (eV 2) (eV 6))) [some .cup, some (wD s ps), some (.tup (iD (lst s ps))), some (optD (lawFirst (lst s ps))), some (.lst (iD (usort (lst s ps)))), none, none, none, none, none, none, none, none, none] (some p) = .ok (.int ((lst s ps).count n : Nat)) (some p) := by
    refine e1_of (lc_all D.int (fun k => .int ((lst s ps).count k : Nat)) (seqI_of (v_of rfl) rfl) hroom fun k _ => ⟨_, rfl, mth_of (v_of rfl) rfl (v_of rfl) (count_int _ k)⟩) ?_
    show (match dInts ((usort (lst s ps)).map fun k => D.int ((lst s ps).count k : Nat)) with | some (n :: ns) => some (D.int (maxL n ns)) | _ => none) = _
    rw [dInts_gen, hu, List.map_cons]
    exact congrArg (fun z => some (D.int z)) hmax
  let E5 : En := [some .cup, some (wD s ps), some (.tup (iD (lst s ps))), some (optD (lawFirst (lst s ps))), some (.lst (iD (usort (lst s ps)))), some (.int ((lst s ps).count n : Nat)), none, none, none, none, none, none, none, none]
  have h7 : eLc (iSeq (eV 4)) [6] (bN 6) (eT (e2 dEq (eMth dCount (eV 2) (eV 6)) (eV 5))) (eV 6) E5 (some p) = .ok (.lst (iD (n :: r))) (some p) := by
    have q1 := lc_of (c1 := some p) (env := E5) (c := some p) (it := iSeq (eV 4)) (own := [6]) (g := bN 6) (t := eT (e2 dEq (eMth dCount (eV 2) (eV 6)) (eV 5))) (el := eV 6) D.int (fun k => (((lst s ps).count k : Nat) : Int) == ((lst s ps).count n : Nat)) D.int (xs := usort (lst s ps)) (seqI_of (v_of rfl) rfl) hroom
      fun k _ => ⟨_, rfl, eT_of (e2_of (mth_of (v_of rfl) rfl (v_of rfl) (count_int _ k)) (v_of rfl) (dEq_int _ _)), fun _ => v_of rfl⟩
    rw [hoft] at q1
    exact q1
  let E7 : En := [some .cup, some (wD s ps), some (.tup (iD (lst s ps))), some (optD (lawFirst (lst s ps))), some (.lst (iD (usort (lst s ps)))), some (.int ((lst s ps).count n : Nat)), none, some (.lst (iD (n :: r))), none, none, none, none, none, none]
  let told : D := .lst [.bl (lawFirst (lst s ps)).isSome, optD (lawFirst (lst s ps)), .int ((usort (lst s ps)).length : Nat), .tup [.int ((lst s ps).count n : Nat), .int n]]
  have h8 : eLst (aC (eCall m_meets_itself (aC (eV 1) aN)) (aC (eCall m_first_places (aC (eV 1) aN)) (aC (eCall m_count_unlike (aC (eV 1) aN)) (aC (eCall m_most_told (aC (eV 1) aN)) aN)))) E7 (some p) = .ok told (some p) := by
    have hc := p_count_unlike G s (some p)
    rw [posOf_usort] at hc
    exact lst_of (aC_of (call_of (aC_of (v_of rfl) rfl) (p_meets_itself G s _)) (aC_of (call_of (aC_of (v_of rfl) rfl) (p_first_places G s _)) (aC_of (call_of (aC_of (v_of rfl) rfl) hc) (aC_of (call_of (aC_of (v_of rfl) rfl) (p_most_told G s _ M)) rfl))))
  let E8 : En := [some .cup, some (wD s ps), some (.tup (iD (lst s ps))), some (optD (lawFirst (lst s ps))), some (.lst (iD (usort (lst s ps)))), some (.int ((lst s ps).count n : Nat)), none, some (.lst (iD (n :: r))), some told, none, none, none, none, none]
  have hdue : eLst (aC (e2 dIsNot (eV 3) (eC .non)) (aC (eV 3) (aC (e1 dLenA (eV 4)) (aC (eTup (aC (eV 5) (aC (e2 dIx (eV 7) (eC (.int 0))) aN))) aN)))) E8 (some p) = .ok told (some p) := by
    refine lst_of (aC_of (e2_of (v_of rfl) rfl (isNot_opt G _)) (aC_of (v_of rfl) (aC_of (e1_of (v_of rfl) ?_) (aC_of (tup_of (aC_of (v_of rfl) (aC_of (e2_of (v_of rfl) rfl (head_ix n r)) rfl))) rfl))))
    show some (D.int ((iD (usort (lst s ps))).length : Nat)) = _
    rw [List.length_map]
  have hlk : lk 29 told = true := by
    cases ho : lawFirst (lst s ps) with
    | none => show lk 29 (.lst [.bl (lawFirst (lst s ps)).isSome, optD (lawFirst (lst s ps)), _, _]) = true; rw [ho]; rfl
    | some q => show lk 29 (.lst [.bl (lawFirst (lst s ps)).isSome, optD (lawFirst (lst s ps)), _, _]) = true; rw [ho]; rfl
  -- the five numbers
  obtain ⟨x, hx, q1, h9⟩ := p__law_some (ds := iD (usort (lst s ps))) p (by rw [List.length_map, hu]; exact Nat.succ_pos _) (by rw [List.length_map]; omega)
  obtain ⟨x0, _, rfl⟩ := List.mem_map.mp hx
  obtain ⟨k, q2, h10, hk⟩ := p__law_roll q1.1 q1.2 (lst s ps).length hpos (by omega)
  obtain ⟨zl, hzl⟩ := last_ix u us
  rw [← hu] at hzl
  have hu0 : dIx (.lst (iD (usort (lst s ps)))) (.int 0) = some (.int u) := by rw [hu]; exact head_ix u us
  have hzs : iSeq (eTup (aC (e2 dIx (eV 4) (eC (.int 0))) (aC (eCall m__law_some (aC (eV 0) (aC (eV 4) aN))) (aC (e2 dIx (eV 7) (eC (.int 0))) (aC (e2 dCat (e2 dIx (eV 4) (e1 dNeg (eC (.int 1)))) (eC (.int 1))) (aC (e2 dCat (e2 dIx (eV 2) (eCall m__law_roll (aC (eV 0) (aC (e1 dLenA (eV 2)) aN)))) (eC (.int 1))) aN)))))) E8 (some p) =
      .ok (iD [u, x0, n, zl + 1, (lst s ps).getD k 0 + 1]) (some q2) := by
    have hln : e1 dLenA (eV 2) E8 (some q1) = .ok (.int ((lst s ps).length : Nat)) (some q1) := by
      refine e1_of (v_of rfl) ?_
      show some (D.int ((iD (lst s ps)).length : Nat)) = _
      rw [List.length_map]
    exact seqI_of (tup_of (aC_of (e2_of (v_of rfl) rfl hu0) (aC_of (call_of (aC_of (v_of rfl) (aC_of (v_of rfl) rfl)) h9) (aC_of (e2_of (v_of rfl) rfl (head_ix n r)) (aC_of (e2_of (e2_of (v_of rfl) (e1_of rfl rfl) hzl) rfl rfl) (aC_of (e2_of (e2_of (v_of rfl) (call_of (aC_of (v_of rfl) (aC_of hln rfl)) h10) (ix_nat hk)) rfl rfl) rfl)))))) rfl
  obtain ⟨x6, h11⟩ := own_go G s (some q2) (some (optD (lawFirst (lst s ps)))) (some (.lst (iD (usort (lst s ps))))) (some (.int ((lst s ps).count n : Nat))) (some (.lst (iD (n :: r)))) (some told) [u, x0, n, zl + 1, (lst s ps).getD k 0 + 1] none
  obtain ⟨q3, h12⟩ := meet_go G s (some (optD (lawFirst (lst s ps)))) (some (.lst (iD (usort (lst s ps))))) (some (.int ((lst s ps).count n : Nat))) x6 (some (.lst (iD (n :: r)))) (some told) none (nD (List.range 6)) q2
  let EF : En := [some .cup, some (wD s ps), some (.tup (iD (lst s ps))), some (optD (lawFirst (lst s ps))), some (.lst (iD (usort (lst s ps)))), some (.int ((lst s ps).count n : Nat)), x6, some (.lst (iD (n :: r))), some told, none, none, none, none, none]
  have h13 : (DL.tAnd (eT (e2 dIsNot (eV 3) (eC .non))) (DL.tNot (eT (eCall m__law_like (aC (eLc (iSeq (eTup (aC (eV 3) (aC (e1 dRev (eV 3)) (aC (e1 dList (eV 3)) (aC (e2 dCat (eV 3) (eTup (aC (eC (.int 0)) aN))) aN)))))) [6] (bN 6) DL.tYes (eCall m_is_meeting (aC (eV 1) (aC (eV 6) aN)))) (aC (eLst (aC (eC (.bl true)) (aC (eC (.bl false)) (aC (eC (.bl false)) (aC (eC (.bl false)) aN))))) aN)))))) EF (some q3) = .ok false (some q3) := by
    have hno : eT (e2 dIsNot (eV 3) (eC .non)) EF (some q3) = .ok (lawFirst (lst s ps)).isSome (some q3) := eT_of (e2_of (v_of rfl) rfl (isNot_opt G _))
    cases ho : lawFirst (lst s ps) with
    | none =>
      rw [ho] at hno
      exact tAnd_of (k := false) (j := false) hno fun z => nomatch z
    | some ab =>
      rw [ho] at hno
      obtain ⟨a, b⟩ := ab
      have F := lawFirst_some ho
      have hv3 : eV 3 EF (some q3) = .ok (.tup [.int (a : Nat), .int (b : Nat)]) (some q3) := by
        refine v_of ?_
        show some (optD (lawFirst (lst s ps))) = _
        rw [ho]; rfl
      obtain ⟨v, hv1, hv2⟩ := F.same
      have hb : b < (lst s ps).length := (List.getElem?_eq_some_iff.mp hv2).1
      have m1 : meet (lst s ps) a b = true := by
        unfold meet
        rw [decide_eq_true F.lt, decide_eq_true hb, List.getD_eq_getElem?_getD, List.getD_eq_getElem?_getD, hv1, hv2]
        exact beq_self_eq_true _
      have m2 : meet (lst s ps) b a = false := by
        unfold meet
        rw [decide_eq_false (Nat.not_lt.mpr (Nat.le_of_lt F.lt))]; rfl
      have hl : eLc (iSeq (eTup (aC (eV 3) (aC (e1 dRev (eV 3)) (aC (e1 dList (eV 3)) (aC (e2 dCat (eV 3) (eTup (aC (eC (.int 0)) aN))) aN)))))) [6] (bN 6) DL.tYes (eCall m_is_meeting (aC (eV 1) (aC (eV 6) aN))) EF (some q3) = .ok (.lst [.bl true, .bl false, .bl false, .bl false]) (some q3) := by
        refine lc_all (fun z : D × Bool => z.1) (fun z => .bl z.2) (xs := [(.tup [.int (a : Nat), .int (b : Nat)], true), (.tup [.int (b : Nat), .int (a : Nat)], false), (.lst [.int (a : Nat), .int (b : Nat)], false), (.tup [.int (a : Nat), .int (b : Nat), .int 0], false)])
          (seqI_of (tup_of (aC_of hv3 (aC_of (e1_of hv3 rfl) (aC_of (e1_of hv3 rfl) (aC_of (e2_of hv3 (tup_of (aC_of rfl rfl)) rfl) rfl))))) rfl) rfl fun z hz => ⟨_, rfl, call_of (aC_of (v_of rfl) (aC_of (v_of rfl) rfl)) ?_⟩
        simp only [List.mem_cons, List.not_mem_nil, or_false] at hz
        rcases hz with e | e | e | e
        · subst e; exact (p_is_meeting_two G s _ a b).trans (by rw [m1])
        · subst e; exact (p_is_meeting_two G s _ b a).trans (by rw [m2])
        · subst e; exact p_is_meeting_no G s _ (p_is_tuple_lst _ _ _ _)
        · subst e; exact p_is_meeting_no G s _ ((p_is_tuple_of _ _ _ _).trans rfl)
      exact tAnd_of (k := true) (j := false) hno fun _ => tNot_of (k := true) (eT_of (call_of (aC_of hl (aC_of rfl rfl)) (p__law_like rfl)))
  obtain ⟨q4, h14⟩ := p__law_rows_right G s q3
  exact ⟨q4, def_rt (seq_nx (set_of (call_of (aC_of (v_of rfl) rfl) (p__law_list G s _))) (seq_nx (par_of (call_of (aC_of (v_of rfl) rfl) (p__law_first _ _ (by omega))) (e1_of (v_of rfl) (sortSet_int (by omega)))) (seq_nx (set_of h5) (seq_nx (set_of h7) (seq_nx (set_of h8)
    (seq_nx (if_f (tNot_of (k := true) (eT_of (call_of (aC_of (v_of rfl) (aC_of hdue rfl)) (p__law_like hlk)))) rfl) (seq_nx (for_of hzs h11) (seq_nx (for_of rfl h12) (seq_nx (if_f h13 rfl) (seq_rt (ret_of (call_of (aC_of (v_of rfl) (aC_of (v_of rfl) (aC_of (v_of rfl) rfl))) h14))))))))))))⟩
end
/-! ### the law -/
theorem p__law_cup (ns : List Int) (h : ns.length ≤ 63) : ∃ q : Int × Int, m__law_cup [.scr ns] none = .ok (.lst [.int q.1, .int q.2]) none := by
  obtain ⟨x, xs, hx⟩ : ∃ x xs, ns ++ [(0 : Int)] = x :: xs := by
    cases ns with
    | nil => exact ⟨0, [], rfl⟩
    | cons n ns => exact ⟨n, ns ++ [0], rfl⟩
  have hcat : dCat (.lst (iD ns)) (.lst [.int 0]) = some (.lst (iD (x :: xs))) := by
    show (match room ((iD ns).length + 1) with | true => some (D.lst (iD ns ++ [D.int 0])) | false => none) = _
    have e : iD (x :: xs) = iD ns ++ [D.int 0] := by
      rw [← hx]
      show List.map D.int (ns ++ [0]) = _
      rw [List.map_append]; rfl
    rw [room_le (by rw [List.length_map]; omega), e]
  obtain ⟨y, hy⟩ : ∃ y : Int, dAbs (.int x) = some (.int y) := ⟨_, rfl⟩
  have hset : e1 dAbs (e2 dIx (e2 dCat (e1 dList (eV 0)) (eLst (aC (eC (.int 0)) aN))) (eC (.int 0))) [some (.scr ns), none] none = .ok (.int y) none :=
    e1_of (e2_of (e2_of (e1_of (v_of rfl) rfl) (lst_of (aC_of rfl rfl)) hcat) rfl (head_ix x xs)) hy
  have hpw : dInt2 iPow (.int 10) (.int 18) = some (.int 1000000000000000000) := by kernel_rfl
  have hif : ∃ a : Int, eIf (eT (e2 dGe (eV 1) (e2 (dInt2 iPow) (eC (.int 10)) (eC (.int 18))))) (e2 (dInt2 iDiv) (eV 1) (eC (.int 83))) (eC (.int 0)) [some (.scr ns), some (.int y)] none = .ok (.int a) none := by
    have ht : eT (e2 dGe (eV 1) (e2 (dInt2 iPow) (eC (.int 10)) (eC (.int 18)))) [some (.scr ns), some (.int y)] none = .ok (decide ((1000000000000000000 : Int) ≤ y)) none := eT_of (e2_of (v_of rfl) (e2_of rfl rfl hpw) rfl)
    by_cases hc : (1000000000000000000 : Int) ≤ y
    · rw [decide_eq_true hc] at ht
      exact ⟨_, eIf_t ht (e2_of (v_of rfl) rfl (idiv_pos y 83 (by decide) (by decide)))⟩
    · rw [decide_eq_false hc] at ht
      exact ⟨_, eIf_f ht rfl⟩
  obtain ⟨a, ha⟩ := hif
  have hmul : dInt2 iMul (.int y) (.int 311) = some (.int (y * 311)) := by
    show iMul y 311 = _
    unfold iMul
    rw [mulOk_r (by decide) (by decide)]
  exact ⟨(a, (y * 311 + 8466) % 2077503221 + 181), def_rt (seq_nx (set_of hset) (seq_rt (ret_of (lst_of (aC_of ha (aC_of (e2_of (e2_of (e1_of (e2_of (e2_of (v_of rfl) rfl hmul) rfl rfl) rfl) rfl (imod_pos _ _ (by decide))) rfl rfl) rfl))))))⟩
theorem lc_none {env : En} {g : Bd} {t : En → C → R Bool} {el : Ex} : ∀ (ds : List D), (∀ d ∈ ds, ∀ p : Int × Int, ∃ (e1 : En) (q : Int × Int), g d env = some e1 ∧ t e1 (some p) = .ok false (some q)) → ∀ p : Int × Int, ∃ q : Int × Int, lcGo env g t el ds (some p) = .ok [] (some q)
  | [], _, p => ⟨p, rfl⟩
  | d :: ds, h, p => by
    obtain ⟨e1, q, h1, h2⟩ := h d List.mem_cons_self p
    obtain ⟨q', ih⟩ := lc_none (el := el) ds (fun y hy => h y (List.mem_cons_of_mem _ hy)) q
    refine ⟨q', ?_⟩
    unfold lcGo
    rw [h1]
    show ((t e1 (some p)).bindB _) = _
    rw [h2, bindB_ok]
    exact ih
theorem law_true : ∀ ns : List Int, ns.length ≤ 63 → ∃ c', b_law (lawIn 3 ns) none = .ok (.rt (.bl true)) c' := fun ns hns => by
  obtain ⟨q, hq⟩ := p__law_cup ns hns
  obtain ⟨q', hl⟩ := lc_none (env := [some (.scr ns), some .cup, none]) (g := bN 2) (t := DL.tNot (eT (eCall m__law_right (aC (eV 1) (aC (eCall m__law_walk (aC (eV 1) (aC (eC (.int 200)) aN))) aN))))) (el := eV 2) (nD (List.range 14)) (fun d _ p => by
    obtain ⟨s, ps, q1, h1, G, hz⟩ := p__law_walk p
    obtain ⟨q2, h2⟩ := p__law_right G s hz q1
    exact ⟨_, q2, rfl, tNot_of (k := true) (eT_of (call_of (aC_of (v_of rfl) (aC_of (call_of (aC_of (v_of rfl) (aC_of rfl rfl)) h1) rfl)) h2))⟩) q
  have hlc : eLc (iRange1 (eC (.int 14))) [2] (bN 2) (DL.tNot (eT (eCall m__law_right (aC (eV 1) (aC (eCall m__law_walk (aC (eV 1) (aC (eC (.int 200)) aN))) aN))))) (eV 2) [some (.scr ns), some .cup, none] (some q) = .ok (.lst []) (some q') := by
    unfold eLc
    show (match room 14 with | true => (lcGo [some (.scr ns), some .cup, none] (bN 2) _ (eV 2) (nD (List.range 14)) (some q)).bind fun ys c2 => R.ok (D.lst ys) c2 | false => .bad) = _
    rw [show room 14 = true from rfl]
    dsimp only
    rw [hl]; rfl
  have hrest : (sSeq (sRet (e2 dEq (eLc (iRange1 (eC (.int 14))) [2] (bN 2) (DL.tNot (eT (eCall m__law_right (aC (eV 1) (aC (eCall m__law_walk (aC (eV 1) (aC (eC (.int 200)) aN))) aN))))) (eV 2)) (eLst aN))) sNx) [some (.scr ns), some .cup, none] (some q) = .ok (.rt (.bl true)) (some q') :=
    seq_rt (ret_of (e2_of hlc (lst_of rfl) (dEq_nil (k := 1) (ds := []) rfl (by decide))))
  refine ⟨none, seq_nx (if_f (tNot_of (k := true) (eT_of (call0_of written))) rfl) ?_⟩
  show sCup 1 (eCall m__law_cup (aC (eV 0) aN)) _ [some (.scr ns), none, none] none = _
  unfold sCup
  dsimp only
  have hc : eCall m__law_cup (aC (eV 0) aN) [some (.scr ns), none, none] none = .ok (.lst [.int q.1, .int q.2]) none := call_of (aC_of (v_of rfl) rfl) hq
  rw [hc, bind_ok]
  show endB none ((sSeq (sRet (e2 dEq (eLc (iRange1 (eC (.int 14))) [2] (bN 2) (DL.tNot (eT (eCall m__law_right (aC (eV 1) (aC (eCall m__law_walk (aC (eV 1) (aC (eC (.int 200)) aN))) aN))))) (eV 2)) (eLst aN))) sNx) [some (.scr ns), some .cup, none] (some q)) = _
  rw [hrest]; rfl
end K47

open PySem PySem.W PyProof.Rows
set_option maxHeartbeats 0 in
theorem PySem.Challenge.cw_walkstrides_k47_whole_walks_that_meet_th_holds : PySem.Challenge.rw_walkstrides_k47_whole_walks_that_meet_th.Holds := by
  w_on; o_law; k_head; (case hw => w_witness2)
  k_fill
  refine L2.walk_of (l := PySem.Challenge.rw_walkstrides_k47_whole_walks_that_meet_th) (n := 63) (k := 35) (x := "script") (CX := fun w => L2.CX PySem.Challenge.pw_walkstrides_k47_whole_walks_that_meet_th w) (sp := fun w => DL.spLaw _ []) rfl (by decide) rfl ⟨rfl, by decide, by decide⟩ (fun w h Y => PySem.W.kIn_of Y) ?F (fun w H a ns hl hO hS => ⟨a, ns, rfl, DL.scr_of hS (hO a), (fun p hp => nomatch hp), hl, fun _ => rfl⟩) (fun w H s e s' h => DL.cx_no h)
  case F =>
    intro w mg fa h KX G hmg
    obtain ⟨fa', fd, ec, T, efa, hB⟩ : ∃ (fa' : Nat → Addr) (fd : Nat → FuncData) (ec : Nat → Addr), K47.Tx _ mg fa' fd ec ∧ fa' 39 = fa ∧ ∀ (s : Shared) (v : Value), BindsTo s (fd 39) ⟨[v], []⟩ [("script", v)] := by
      refine' K47.all_mk KX G ?a0 ?l0 ?c0 ?k0 ?a1 ?l1 ?c1 ?k1 ?a2 ?l2 ?c2 ?k2 ?a3 ?l3 ?c3 ?k3 ?a4 ?l4 ?c4 ?k4 ?a5 ?l5 ?c5 ?k5 ?a6 ?l6 ?c6 ?k6 ?a7 ?l7 ?c7 ?k7 ?a8 ?l8 ?c8 ?k8 ?a9 ?l9 ?c9 ?k9 ?a10 ?l10 ?c10 ?k10 ?a11 ?l11 ?c11 ?k11 ?a12 ?l12 ?c12 ?k12 ?a13 ?l13 ?c13 ?k13 ?a14 ?l14 ?c14 ?k14 ?a15 ?l15 ?c15 ?k15 ?a16 ?l16 ?c16 ?k16 ?a17 ?l17 ?c17 ?k17 ?a18 ?l18 ?c18 ?k18 ?a19 ?l19 ?c19 ?k19 ?a20 ?l20 ?c20 ?k20 ?a21 ?l21 ?c21 ?k21 ?a22 ?l22 ?c22 ?k22 ?a23 ?l23 ?c23 ?k23 ?a24 ?l24 ?c24 ?k24 ?a25 ?l25 ?c25 ?k25 ?a26 ?l26 ?c26 ?k26 ?a27 ?l27 ?c27 ?k27 ?a28 ?l28 ?c28 ?k28 ?a29 ?l29 ?c29 ?k29 ?a30 ?l30 ?c30 ?k30 ?a31 ?l31 ?c31 ?k31 ?a32 ?l32 ?c32 ?k32 ?a33 ?l33 ?c33 ?k33 ?a34 ?l34 ?c34 ?k34 ?a35 ?l35 ?c35 ?k35 ?a36 ?l36 ?c36 ?k36 ?a37 ?l37 ?c37 ?k37 ?a38 ?l38 ?c38 ?k38 ?a39 ?l39 ?c39 ?k39 ?n_abs ?n_all ?n_any ?n_bool ?n_enumerate ?n_int ?n_isinstance ?n_len ?n_list ?n_max ?n_min ?n_range ?n_set ?n_sorted ?n_str ?n_sum ?n_tuple ?n_zip ?c_MOST_PAIRS ?c_MOST_PLACES ?e_InvalidNumber ?x_InvalidNumber ?k_InvalidNumber ?s_InvalidNumber ?t_InvalidNumber ?e_InvalidWalk ?x_InvalidWalk ?k_InvalidWalk ?s_InvalidWalk ?t_InvalidWalk hmg
      (case a0 => k_is); (case l0 => k_is); (case c0 => k_is); (case k0 => k_is); (case a1 => k_is); (case l1 => k_is)
      (case c1 => k_is); (case k1 => k_is); (case a2 => k_is); (case l2 => k_is); (case c2 => k_is); (case k2 => k_is)
      (case a3 => k_is); (case l3 => k_is); (case c3 => k_is); (case k3 => k_is); (case a4 => k_is); (case l4 => k_is)
      (case c4 => k_is); (case k4 => k_is); (case a5 => k_is); (case l5 => k_is); (case c5 => k_is); (case k5 => k_is)
      (case a6 => k_is); (case l6 => k_is); (case c6 => k_is); (case k6 => k_is); (case a7 => k_is); (case l7 => k_is)
      (case c7 => k_is); (case k7 => k_is); (case a8 => k_is); (case l8 => k_is); (case c8 => k_is); (case k8 => k_is)
      (case a9 => k_is); (case l9 => k_is); (case c9 => k_is); (case k9 => k_is); (case a10 => k_is); (case l10 => k_is)
      (case c10 => k_is); (case k10 => k_is); (case a11 => k_is); (case l11 => k_is); (case c11 => k_is); (case k11 => k_is)
      (case a12 => k_is); (case l12 => k_is); (case c12 => k_is); (case k12 => k_is); (case a13 => k_is); (case l13 => k_is)
      (case c13 => k_is); (case k13 => k_is); (case a14 => k_is); (case l14 => k_is); (case c14 => k_is); (case k14 => k_is)
      (case a15 => k_is); (case l15 => k_is); (case c15 => k_is); (case k15 => k_is); (case a16 => k_is); (case l16 => k_is)
      (case c16 => k_is); (case k16 => k_is); (case a17 => k_is); (case l17 => k_is); (case c17 => k_is); (case k17 => k_is)
      (case a18 => k_is); (case l18 => k_is); (case c18 => k_is); (case k18 => k_is); (case a19 => k_is); (case l19 => k_is)
      (case c19 => k_is); (case k19 => k_is); (case a20 => k_is); (case l20 => k_is); (case c20 => k_is); (case k20 => k_is)
      (case a21 => k_is); (case l21 => k_is); (case c21 => k_is); (case k21 => k_is); (case a22 => k_is); (case l22 => k_is)
      (case c22 => k_is); (case k22 => k_is); (case a23 => k_is); (case l23 => k_is); (case c23 => k_is); (case k23 => k_is)
      (case a24 => k_is); (case l24 => k_is); (case c24 => k_is); (case k24 => k_is); (case a25 => k_is); (case l25 => k_is)
      (case c25 => k_is); (case k25 => k_is); (case a26 => k_is); (case l26 => k_is); (case c26 => k_is); (case k26 => k_is)
      (case a27 => k_is); (case l27 => k_is); (case c27 => k_is); (case k27 => k_is); (case a28 => k_is); (case l28 => k_is)
      (case c28 => k_is); (case k28 => k_is); (case a29 => k_is); (case l29 => k_is); (case c29 => k_is); (case k29 => k_is)
      (case a30 => k_is); (case l30 => k_is); (case c30 => k_is); (case k30 => k_is); (case a31 => k_is); (case l31 => k_is)
      (case c31 => k_is); (case k31 => k_is); (case a32 => k_is); (case l32 => k_is); (case c32 => k_is); (case k32 => k_is)
      (case a33 => k_is); (case l33 => k_is); (case c33 => k_is); (case k33 => k_is); (case a34 => k_is); (case l34 => k_is)
      (case c34 => k_is); (case k34 => k_is); (case a35 => k_is); (case l35 => k_is); (case c35 => k_is); (case k35 => k_is)
      (case a36 => k_is); (case l36 => k_is); (case c36 => k_is); (case k36 => k_is); (case a37 => k_is); (case l37 => k_is)
      (case c37 => k_is); (case k37 => k_is); (case a38 => k_is); (case l38 => k_is); (case c38 => k_is); (case k38 => k_is)
      (case a39 => k_is); (case l39 => k_is); (case c39 => k_is); (case k39 => k_is); (case n_abs => k_is); (case n_all => k_is)
      (case n_any => k_is); (case n_bool => k_is); (case n_enumerate => k_is); (case n_int => k_is); (case n_isinstance => k_is); (case n_len => k_is)
      (case n_list => k_is); (case n_max => k_is); (case n_min => k_is); (case n_range => k_is); (case n_set => k_is); (case n_sorted => k_is)
      (case n_str => k_is); (case n_sum => k_is); (case n_tuple => k_is); (case n_zip => k_is); (case c_MOST_PAIRS => k_is); (case c_MOST_PLACES => k_is)
      (case e_InvalidNumber => k_is); (case x_InvalidNumber => k_exc); (case k_InvalidNumber => k_is); (case s_InvalidNumber => k_is); (case t_InvalidNumber => k_is); (case e_InvalidWalk => k_is)
      (case x_InvalidWalk => k_exc); (case k_InvalidWalk => k_is); (case s_InvalidWalk => k_is); (case t_InvalidWalk => k_is)
    exact ⟨fd 39, hB, fun base hK hN => efa ▸ K47.ok_law T K47.law_true⟩

