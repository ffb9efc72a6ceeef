import PyProof.Rows.All
import Wide.All
import OpenK.AllK
import Wide.FinOn
import HandS.ForMost
import HandS.Lambda
import HandS.TupAny
import HandS.ExcInit
import KE.KExcIs
import KE.KExcSuper
import HandS.Star
import HandS.IsInst
import HandS.Strs
import HandS.DictComp
import HandS.NoneIn
import HandS.Style
import HandS.Defaults
import HandS.Text
import HandS.Codes
import HandS.More
import HandS.Dict
import HandS.Zip
import HandS.Iter
import KE.SortData
import KE.KDictSum
import KE.KItemsList
import HandS.DictTup
import KE.KDictPairs
import KE.GoesEnum
import KE.GoesMore
import KE.KMinKey
import HandS.Flow
import KE.KStateDown
import HandS.EndBits
import HandS.EndTab
import HandS.Head0
import HandS.Head1
import HandS.Head2
import HandS.HeadEnd
import HandS.HeadHook1
import HandS.HeadHook2
import HandS.HeadHook3
import HandS.HeadHook4
import HandS.HeadWalk
import PySem.Challenge.RW_masksmoved_k29_whole_shifts_until_settle
set_option Elab.async false
set_option linter.all false
set_option maxRecDepth 100000
set_option maxHeartbeats 0
/-! M0 -/
namespace MM
open PySem PySem.Spec PyProof.Rows L2
/-! ## tuples whose object is known to be bare -/
/-- an object without a dict of its own -/
def Nd (o : Obj) : Prop := o.dict = none
section
variable {X : Cx} {pins : List (Addr × Obj)} {σ : L2.St} {H : Hp} {s : Shared}
/-- a tuple just laid, its object kept -/
theorem laidF {us : List Value} {vs : List V} {h' : Heap} {tk : Nat} {a : Addr} (I : Inv X pins σ H s) (k : ∀ b u, s.heap.get? b = some u → h'.get? b = some u) (ha : s.heap.objs.size ≤ a) (hz : vs.length ≤ sizeLine) (r : Vals vs us)
    (e : h'.get? a = some { cls := .type "tuple", data := .seq us.toArray }) : ∃ o, Nd o ∧ Inv X pins σ (upd H a (.frz o (.tup vs))) { s with heap := h', toks := tk } :=
  ⟨{ cls := .type "tuple", data := .seq us.toArray }, rfl, I.laid k ha ⟨e, hz, us, r, ⟨_, e, rfl, _, rfl⟩⟩⟩
def tTupF (t : TA) : TE := fun σ H Q => t σ H fun vs H1 => vs.length ≤ sizeLine ∧ ∀ p o, H1 p = none → Nd o → Q (.ref p) (upd H1 p (.frz o (.tup vs)))
theorem pe_tupF {es : List Expr} {n : Nat} {pos : Pos} {t : TA} (h : PA X es t) : PE X (.Tuple es n pos) (tTupF t) := ⟨fun pins s σ H Q I hq => by
  refine wpAny_Tuple_spliced (thn (h.run pos pins s σ H _ I hq) fun us s1 w => ?_)
  obtain ⟨vs, H1, I1, r, hz, q⟩ := w
  obtain ⟨o, ho, I2⟩ := laidF (tk := s1.toks) I1 (fun b u e => Heap.get?_push_of_some _ e) (Nat.le_refl _) hz r (Heap.get?_push_size _ rfl)
  exact ⟨by rw [← r.length]; exact hz, ⟨.ref _, _, I2, rfl, q _ o (I1.hok.fresh (Nat.le_refl _)) ho⟩⟩⟩
/-- tuple(xs), xs a list -/
theorem call_tupF : CallR X (.type "tuple") (fun xs H Q => ∃ p ys, xs = [.ref p] ∧ SqL X.K H p ys ∧ ∀ l o, H l = none → Nd o → Q (.ref l) (upd H l (.frz o (.tup ys)))) := by
  intro pins s σ H xs us Q I r h
  obtain ⟨p, ys, rfl, hq, q⟩ := h
  obtain rfl := Vals.ref1 r
  obtain ⟨its, rv, pl, hz⟩ := I.list hq
  refine call_tuple_list pl.isList (fun h' kp => ?_) (by rw [List.size_toArray, ← rv.length]; exact hz)
  have I1 : Inv X pins σ H { s with heap := h' } := I.kept (t' := s.toks) kp
  obtain ⟨o, ho, I2⟩ := laidF (tk := s.toks) I1 (fun b u e => Heap.get?_push_of_some _ e) (Nat.le_refl _) hz rv (Heap.get?_push_size _ rfl)
  exact ⟨.ref _, _, I2, rfl, q _ o (I1.hok.fresh (Nat.le_refl _)) ho⟩
def rSlF (K : PySem.W.Frag) : V → Option Int → Option Int → Hp → VK → Prop := fun x lo hi H Q => ∃ a xs, x = .ref a ∧ SqT K H a xs ∧
  (HT.sIx xs.length 0 lo = 0 ∧ HT.sIx xs.length xs.length hi = xs.length → Q (.ref a) H) ∧ ∀ p o, H p = none → Nd o → Q (.ref p) (upd H p (.frz o (.tup (cutV xs lo hi))))
theorem sl_tupF : SlR X (rSlF X.K) := by
  intro pins s σ H x v vl vu lo hi sl Q I rx hs pl pu h
  obtain ⟨a, xs, rfl, hx, q1, q2⟩ := h
  cases rx
  obtain ⟨its, r, ht, hz⟩ := I.tuple hx
  have hlen : its.toArray.size = xs.length := by rw [List.size_toArray]; exact r.length.symm
  refine ⟨"tuple", _, PyProof.Rows.slot_tuple_getitem.lookup, ht.typeIs, ?_⟩
  by_cases hw : HT.sIx xs.length 0 lo = 0 ∧ HT.sIx xs.length xs.length hi = xs.length
  · exact getItem_tuple_whole ht hs pl pu (by rw [hlen]; exact hw) ⟨.ref a, H, I, rfl, q1 hw⟩
  · refine HT.getItem_tuple_cut ht hs pl pu (by rw [hlen]; exact hw) ?_ (by rw [hlen]; exact hz)
    rw [hlen]
    have rc : Vals (cutV xs lo hi) ((its.toArray.toList.drop (HT.sIx xs.length 0 lo)).take (HT.sIx xs.length xs.length hi - HT.sIx xs.length 0 lo)) := by
      rw [List.toList_toArray]
      exact (r.drop _).take _
    obtain ⟨o, ho, I2⟩ := laidF (tk := s.toks) I (fun b u e => Heap.get?_push_of_some _ e) (Nat.le_refl _) (Nat.le_trans (cutV_length xs lo hi) hz) rc (Heap.get?_push_size _ rfl)
    exact ⟨.ref _, _, I2, rfl, q2 _ o (I.hok.fresh (Nat.le_refl _)) ho⟩
def rCatF (K : PySem.W.Frag) : R2 := fun x y H Q => ∃ a b xs ys, x = .ref a ∧ y = .ref b ∧ SqT K H a xs ∧ SqT K H b ys ∧ xs.length + ys.length ≤ sizeLine ∧
  (xs = [] → Q (.ref b) H) ∧ (ys = [] → Q (.ref a) H) ∧ ∀ p o, H p = none → Nd o → Q (.ref p) (upd H p (.frz o (.tup (xs ++ ys))))
theorem op_catF : OpR X (binaryOp .Add) (rCatF X.K) := by
  intro pins s σ H x y v u Q I rx ry h
  obtain ⟨a, b, xs, ys, rfl, rfl, ha, hb, hz, q0, q1, q2⟩ := h
  cases rx
  cases ry
  obtain ⟨its, r1, p1, _⟩ := I.tuple ha
  obtain ⟨its2, r2, p2, _⟩ := I.tuple hb
  by_cases hx : its = []
  · subst hx
    exact cat_tup0 p1 p2 ⟨.ref b, H, I, rfl, q0 (r1.nil_iff.mp rfl)⟩
  · refine HT.cat_tup p1 p2 hx (fun z => ⟨.ref a, H, I, rfl, q1 (r2.nil_iff.mp z)⟩) (fun _ => ?_) (by rw [← r1.length, ← r2.length]; exact hz)
    obtain ⟨o, ho, I2⟩ := laidF (tk := s.toks) I (fun b u e => Heap.get?_push_of_some _ e) (Nat.le_refl _) (by rw [List.length_append]; exact hz) (r1.append r2) (Heap.get?_push_size _ rfl)
    exact ⟨.ref _, _, I2, rfl, q2 _ o (I.hok.fresh (Nat.le_refl _)) ho⟩
end
end MM
/-! M1 -/
namespace MM
open PySem PySem.Spec PyProof.Rows L2

/-! ## data -/
inductive D where
  | non | bl (b : Bool) | int (i : Int) | str (s : Str) | tup (xs : List D) | lst (xs : List D) | dct (kvs : List (Str × D)) | opq | tub
  /-- a pair that an iterator made -/
  | pr (a b : D)
/-- where the draws' list stands, and the class of opaque things -/
structure Kx where
  pt : Addr
  oc : Addr

mutual
inductive Rp (k : Kx) (H : Hp) : D → V → Prop
  | non : Rp k H .non .non
  | bl (b : Bool) : Rp k H (.bl b) (.bl b)
  | int (i : Int) : Rp k H (.int i) (.int i)
  | str (x : Str) : Rp k H (.str x) (.str x)
  | tup {a : Addr} {o : Obj} {ds : List D} {vs : List V} : H a = some (.frz o (.tup vs)) → Nd o → RpA k H ds vs → Rp k H (.tup ds) (.ref a)
  | pr {a : Addr} {d e : D} {v w : V} : H a = some (.tup [v, w]) → Rp k H d v → Rp k H e w → Rp k H (.pr d e) (.ref a)
  | opq {a dx : Addr} {fs : List (Str × V)} : H a = some (exo a k.oc (some dx)) → H dx = some (exd dx fs) → Rp k H .opq (.ref a)
  | lst {a : Addr} {ds : List D} {vs : List V} : H a = some (.lst vs) → RpA k H ds vs → Rp k H (.lst ds) (.ref a)
  | dct {a : Addr} {ks : List (Str × D)} {kvs : List (Key × V)} : H a = some (.dK kvs) → RpK k H ks kvs → Rp k H (.dct ks) (.ref a)
  | tub : Rp k H .tub (.ref k.pt)
inductive RpA (k : Kx) (H : Hp) : List D → List V → Prop
  | nil : RpA k H [] []
  | cons {d : D} {v : V} {ds : List D} {vs : List V} : Rp k H d v → RpA k H ds vs → RpA k H (d :: ds) (v :: vs)
inductive RpK (k : Kx) (H : Hp) : List (Str × D) → List (Key × V) → Prop
  | nil : RpK k H [] []
  | cons {x : Str} {d : D} {v : V} {ds : List (Str × D)} {vs : List (Key × V)} : Rp k H d v → RpK k H ds vs → RpK k H ((x, d) :: ds) ((.inr x, v) :: vs)
end

abbrev Ex (H H' : Hp) : Prop := Same H H'
theorem Ex.rd {H H' : Hp} {a : Addr} {u : HO} (e : Ex H H') (h : Rd H a u) : Rd H' a u := by
  rcases h with h | ⟨o, h⟩
  · exact .inl (e _ _ h)
  · exact .inr ⟨o, e _ _ h⟩
theorem ex_new {H : Hp} {p : Addr} {o : HO} (h : H p = none) : Ex H (upd H p o) := fun b x e => by
  rw [upd_ne (ne_of_none e h)]
  exact e
/-- an object that H does not know may change -/
theorem Ex.mu {H H' : Hp} {p : Addr} {o : HO} (e : Ex H H') (h : H p = none) : Ex H (upd H' p o) := fun a u ha => by
  rw [upd_ne (ne_of_none ha h)]
  exact e a u ha
theorem Ex.upd2 {H H' : Hp} {p : Addr} {o : HO} (e : Ex H H') : Ex (upd H p o) (upd H' p o) := fun a u ha => by
  by_cases h : a = p
  · subst h
    rw [upd_same] at ha ⊢
    exact ha
  · rw [upd_ne h] at ha ⊢
    exact e a u ha
theorem Ex.frz {H H' : Hp} {p : Addr} {o : HO} (e : Ex H H') (h : H' p = some o) : Ex (upd H p o) H' := fun a u ha => by
  by_cases h' : a = p
  · subst h'
    rw [upd_same] at ha
    rw [h]
    exact ha
  · rw [upd_ne h'] at ha
    exact e a u ha

mutual
theorem Rp.ex {k : Kx} {H H' : Hp} (e : Ex H H') : ∀ {d : D} {v : V}, Rp k H d v → Rp k H' d v
  | _, _, .non => .non
  | _, _, .bl b => .bl b
  | _, _, .int i => .int i
  | _, _, .str x => .str x
  | _, _, .tup h n r => .tup (e _ _ h) n (r.ex e)
  | _, _, .pr h r r2 => .pr (e _ _ h) (r.ex e) (r2.ex e)
  | _, _, .opq h r => .opq (e _ _ h) (e _ _ r)
  | _, _, .lst h r => .lst (e _ _ h) (r.ex e)
  | _, _, .dct h r => .dct (e _ _ h) (r.ex e)
  | _, _, .tub => .tub
theorem RpA.ex {k : Kx} {H H' : Hp} (e : Ex H H') : ∀ {ds : List D} {vs : List V}, RpA k H ds vs → RpA k H' ds vs
  | _, _, .nil => .nil
  | _, _, .cons h r => .cons (h.ex e) (r.ex e)
theorem RpK.ex {k : Kx} {H H' : Hp} (e : Ex H H') : ∀ {ds : List (Str × D)} {vs : List (Key × V)}, RpK k H ds vs → RpK k H' ds vs
  | _, _, .nil => .nil
  | _, _, .cons h r => .cons (h.ex e) (r.ex e)
end
theorem RpA.length {k : Kx} {H : Hp} : ∀ {ds : List D} {vs : List V}, RpA k H ds vs → ds.length = vs.length
  | _, _, .nil => rfl
  | _, _, .cons _ r => by rw [List.length_cons, List.length_cons, r.length]
theorem RpA.append {k : Kx} {H : Hp} : ∀ {ds es : List D} {vs ws : List V}, RpA k H ds vs → RpA k H es ws → RpA k H (ds ++ es) (vs ++ ws)
  | _, _, _, _, .nil, s => s
  | _, _, _, _, .cons h r, s => .cons h (r.append s)
theorem RpA.one {k : Kx} {H : Hp} {d : D} {v : V} (h : Rp k H d v) : RpA k H [d] [v] := .cons h .nil
theorem RpA.get {k : Kx} {H : Hp} : ∀ {ds : List D} {vs : List V} {i : Nat} {d : D}, RpA k H ds vs → ds[i]? = some d → ∃ v, vs[i]? = some v ∧ Rp k H d v
  | _, _, _, _, .nil, e => by simp at e
  | _, _, 0, _, .cons h _, e => by
    simp only [List.getElem?_cons_zero, Option.some.injEq] at e
    subst e
    exact ⟨_, rfl, h⟩
  | _, _, i + 1, d, .cons _ r, e => by
    obtain ⟨v, h1, h2⟩ := r.get (i := i) (d := d) (by simpa using e)
    exact ⟨v, by simpa using h1, h2⟩
theorem RpA.take {k : Kx} {H : Hp} : ∀ {ds : List D} {vs : List V} (n : Nat), RpA k H ds vs → RpA k H (ds.take n) (vs.take n)
  | _, _, 0, _ => .nil
  | _, _, _ + 1, .nil => .nil
  | _, _, n + 1, .cons h r => .cons h (r.take n)
theorem RpA.drop {k : Kx} {H : Hp} : ∀ {ds : List D} {vs : List V} (n : Nat), RpA k H ds vs → RpA k H (ds.drop n) (vs.drop n)
  | _, _, 0, r => r
  | _, _, _ + 1, .nil => .nil
  | _, _, n + 1, .cons _ r => r.drop n
theorem RpA.reverse {k : Kx} {H : Hp} : ∀ {ds : List D} {vs : List V}, RpA k H ds vs → RpA k H ds.reverse vs.reverse
  | _, _, .nil => .nil
  | _, _, .cons h r => by
    rw [List.reverse_cons, List.reverse_cons]
    exact r.reverse.append (.one h)

/-! ## the mutable cell: the draws' list, the tables -/
def Chg : HO → Prop
  | .lst _ => True
  | .dK _ => True
  | _ => False
/-- no table of code objects -/
def NT (o : HO) : Prop := ∀ ps, o ≠ .tbl ps
structure Cell (T : Type) where
  mu : Addr → Prop
  rep : T → Hp → Prop
  stay : ∀ t H H', rep t H → (∀ a o, H a = some o → (mu a ∨ ¬ Chg o) → H' a = some o) → rep t H'
/-- from base A0 and heap A to base B0 and heap B -/
structure Go {T : Type} (C : Cell T) (A0 A B0 B : Hp) : Prop where
  base : Ex A0 B0
  act : ∀ a o, A a = some o → ¬ C.mu a → B a = some o
  nof : ∀ a, A a ≠ none → A0 a = none → B0 a = none
  trk : ∀ a, B a = none → A a = none
  ntb : ∀ a ps, B a = some (.tbl ps) → (∃ qs, A a = some (.tbl qs)) ∨ C.mu a
section
variable {T : Type} {C : Cell T} {A0 A B0 B C0 D0 E0 : Hp}
theorem Go.refl : Go C A0 A A0 A := ⟨Same.refl _, fun _ _ h _ => h, fun _ _ h => h, fun _ h => h, fun a ps h => .inl ⟨ps, h⟩⟩
theorem Go.trans {Z0 Z : Hp} (g : Go C A0 A B0 B) (h : Go C B0 B Z0 Z) : Go C A0 A Z0 Z :=
  ⟨g.base.trans h.base, fun a o e n => h.act a o (g.act a o e n) n, fun a e n => h.nof a (fun z => e (g.trk a z)) (g.nof a e n), fun a z => g.trk a (h.trk a z), fun a ps e => (h.ntb a ps e).elim (fun q => q.elim fun qs e2 => g.ntb a qs e2) .inr⟩
/-- a new frozen object -/
theorem Go.new {p : Addr} {o : HO} (hp : A p = none) (hm : ¬ C.mu p) (h0 : A0 p = none) (no : NT o) : Go C A0 A (upd A0 p o) (upd A p o) :=
  ⟨ex_new h0, fun a u e _ => by rw [upd_ne (ne_of_none e hp)]; exact e, fun a e n => by rw [upd_ne (fun z => e (by rw [z]; exact hp))]; exact n,
    fun a z => by
      by_cases h : a = p
      · rw [h]; exact hp
      · rw [upd_ne h] at z; exact z,
    fun a ps e => by
      by_cases h : a = p
      · rw [h, upd_same] at e; exact absurd (Option.some.inj e) (no ps)
      · rw [upd_ne h] at e; exact .inl ⟨ps, e⟩⟩
/-- a new object of one's own -/
theorem Go.own {p : Addr} {o : HO} (hp : A p = none) (no : NT o) : Go C A0 A A0 (upd A p o) :=
  ⟨Same.refl _, fun a u e _ => by rw [upd_ne (ne_of_none e hp)]; exact e, fun _ _ n => n, fun a z => by
      by_cases h : a = p
      · rw [h]; exact hp
      · rw [upd_ne h] at z; exact z,
    fun a ps e => by
      by_cases h : a = p
      · rw [h, upd_same] at e; exact absurd (Option.some.inj e) (no ps)
      · rw [upd_ne h] at e; exact .inl ⟨ps, e⟩⟩
end

/-! ## slots -/
inductive SV where
  | val (d : D) | ol (ds : List D) | od (kvs : List (Str × D))
abbrev Env := List (Option SV)
def SlotOk (k : Kx) (En H0 H : Hp) (x : Option V) : Option SV → Prop
  | none => True
  | some (.val d) => ∃ v, x = some v ∧ Rp k H0 d v
  | some (.ol ds) => ∃ l vs, x = some (.ref l) ∧ En l = none ∧ H0 l = none ∧ H l = some (.lst vs) ∧ RpA k H0 ds vs
  | some (.od ks) => ∃ l kvs, x = some (.ref l) ∧ En l = none ∧ H0 l = none ∧ H l = some (.dK kvs) ∧ RpK k H0 ks kvs
/-- slot i owns the object at l -/
def Owns (σ : L2.St) (ρ : Env) (i : Nat) (l : Addr) : Prop := σ[i]? = some (some (.ref l)) ∧ ((∃ ds, ρ[i]? = some (some (.ol ds))) ∨ ∃ ks, ρ[i]? = some (some (.od ks)))
structure RS {T : Type} (k : Kx) (C : Cell T) (E0 En H0 H : Hp) (σ : L2.St) (ρ : Env) (t : T) : Prop where
  go : Go C E0 En H0 H
  sub : Ex H0 H
  rep : C.rep t H
  mt : ∀ a, C.mu a → En a ≠ none ∧ E0 a = none
  len : σ.length = ρ.length
  slot : ∀ (i : Nat) x s, σ[i]? = some x → ρ[i]? = some s → SlotOk k En H0 H x s
  own : ∀ i j l, Owns σ ρ i l → Owns σ ρ j l → i = j
  tb : ∀ a ps, H a = some (.tbl ps) → C.mu a

section
variable {T : Type} {k : Kx} {C : Cell T} {E0 En H0 H H0' H' : Hp} {σ : L2.St} {ρ : Env} {t t' : T}
theorem RS.nomut (R : RS k C E0 En H0 H σ ρ t) {a : Addr} (h : C.mu a) : H0 a = none ∧ H a ≠ none := by
  obtain ⟨h1, h2⟩ := R.mt a h
  exact ⟨R.go.nof a h1 h2, fun z => h1 (R.go.trk a z)⟩
theorem RS.fresh (R : RS k C E0 En H0 H σ ρ t) {p : Addr} (hp : H p = none) : En p = none ∧ H0 p = none ∧ ¬ C.mu p :=
  ⟨R.go.trk p hp, R.sub.free hp, fun z => (R.nomut z).2 hp⟩
theorem RS.ownAt (R : RS k C E0 En H0 H σ ρ t) {i : Nat} {l : Addr} (o : Owns σ ρ i l) : En l = none ∧ H0 l = none ∧ ∃ u, H l = some u := by
  obtain ⟨h1, h2⟩ := o
  rcases h2 with ⟨ds, h2⟩ | ⟨ds, h2⟩
  · obtain ⟨l', vs, e, a, b, c, _⟩ := R.slot i _ _ h1 h2
    cases e
    exact ⟨a, b, _, c⟩
  · obtain ⟨l', vs, e, a, b, c, _⟩ := R.slot i _ _ h1 h2
    cases e
    exact ⟨a, b, _, c⟩
/-- the world goes on, the slots stand -/
theorem RS.step (R : RS k C E0 En H0 H σ ρ t) (g : Go C H0 H H0' H') (s : Ex H0' H') (r : C.rep t' H') : RS k C E0 En H0' H' σ ρ t' where
  go := R.go.trans g
  sub := s
  rep := r
  mt := R.mt
  len := R.len
  slot := fun i x sv h1 h2 => by
    have q := R.slot i x sv h1 h2
    cases sv with
    | none => trivial
    | some sv =>
      cases sv with
      | val d =>
        obtain ⟨v, e, h⟩ := q
        exact ⟨v, e, h.ex g.base⟩
      | ol ds =>
        obtain ⟨l, vs, e, a, b, c, h⟩ := q
        have nm : ¬ C.mu l := fun z => (R.mt l z).1 a
        exact ⟨l, vs, e, a, g.nof l (by rw [c]; simp) b, g.act l _ c nm, h.ex g.base⟩
      | od ds =>
        obtain ⟨l, vs, e, a, b, c, h⟩ := q
        have nm : ¬ C.mu l := fun z => (R.mt l z).1 a
        exact ⟨l, vs, e, a, g.nof l (by rw [c]; simp) b, g.act l _ c nm, h.ex g.base⟩
  own := R.own
  tb := fun a ps e => (g.ntb a ps e).elim (fun q => q.elim fun qs e2 => R.tb a qs e2) id
theorem Cell.ext (C : Cell T) (r : C.rep t H) (e : Ex H H') : C.rep t H' := C.stay t H H' r fun a o h _ => e a o h
/-- a new frozen object -/
theorem RS.new (R : RS k C E0 En H0 H σ ρ t) {p : Addr} (o : HO) (hp : H p = none) (no : NT o := by intro _ h; cases h) : RS k C E0 En (upd H0 p o) (upd H p o) σ ρ t ∧ Go C H0 H (upd H0 p o) (upd H p o) := by
  obtain ⟨h1, h2, h3⟩ := R.fresh hp
  have g : Go C H0 H (upd H0 p o) (upd H p o) := Go.new hp h3 h2 no
  exact ⟨R.step g R.sub.upd2 (C.ext R.rep (ex_new hp)), g⟩
/-- a new object of one's own -/
theorem RS.newO (R : RS k C E0 En H0 H σ ρ t) {p : Addr} (o : HO) (hp : H p = none) (no : NT o := by intro _ h; cases h) : RS k C E0 En H0 (upd H p o) σ ρ t ∧ Go C H0 H H0 (upd H p o) := by
  have g : Go C H0 H H0 (upd H p o) := Go.own hp no
  exact ⟨R.step g (R.sub.trans (ex_new hp)) (C.ext R.rep (ex_new hp)), g⟩
/-- an object of one's own, in no slot, is frozen -/
theorem RS.frz (R : RS k C E0 En H0 H σ ρ t) {p : Addr} {o : HO} (hp : H p = some o) (h0 : H0 p = none) (hn : En p = none) (ho : ∀ i, ¬ Owns σ ρ i p) : RS k C E0 En (upd H0 p o) H σ ρ t where
  go := ⟨R.go.base.trans (ex_new h0), R.go.act, fun a e n => by
    rw [upd_ne (fun z => e (by rw [z]; exact hn))]
    exact R.go.nof a e n, R.go.trk, R.go.ntb⟩
  sub := R.sub.frz hp
  rep := R.rep
  mt := R.mt
  len := R.len
  slot := fun i x sv h1 h2 => by
    have q := R.slot i x sv h1 h2
    cases sv with
    | none => trivial
    | some sv =>
      cases sv with
      | val d =>
        obtain ⟨v, e, h⟩ := q
        exact ⟨v, e, h.ex (ex_new h0)⟩
      | ol ds =>
        obtain ⟨l, vs, e, a, b, c, h⟩ := q
        have ne : l ≠ p := fun z => ho i ⟨by rw [← z, h1, e], .inl ⟨ds, h2⟩⟩
        exact ⟨l, vs, e, a, by rw [upd_ne ne]; exact b, c, h.ex (ex_new h0)⟩
      | od ds =>
        obtain ⟨l, vs, e, a, b, c, h⟩ := q
        have ne : l ≠ p := fun z => ho i ⟨by rw [← z, h1, e], .inr ⟨ds, h2⟩⟩
        exact ⟨l, vs, e, a, by rw [upd_ne ne]; exact b, c, h.ex (ex_new h0)⟩
  own := R.own
  tb := R.tb
end
end MM
/-! M2 -/
namespace MM
open PySem PySem.Spec PyProof.Rows L2

/-! ## the monad -/
abbrev M (T α : Type) := T → Option (α × T)
def ret {T α : Type} (a : α) : M T α := fun t => some (a, t)
def bnd {T α β : Type} (m : M T α) (f : α → M T β) : M T β := fun t => match m t with
  | none => none
  | some (a, t') => f a t'
def lft {T α : Type} (o : Option α) : M T α := fun t => match o with
  | none => none
  | some a => some (a, t)
theorem bnd_some {T α β : Type} {m : M T α} {f : α → M T β} {t : T} {b : β} {t' : T} (h : bnd m f t = some (b, t')) : ∃ a t1, m t = some (a, t1) ∧ f a t1 = some (b, t') := by
  unfold bnd at h
  cases e : m t with
  | none => rw [e] at h; cases h
  | some p =>
    obtain ⟨a, t1⟩ := p
    rw [e] at h
    exact ⟨a, t1, rfl, h⟩
theorem lft_some {T α : Type} {o : Option α} {t t' : T} {a : α} (h : lft o t = some (a, t')) : o = some a ∧ t' = t := by
  unfold lft at h
  cases o with
  | none => cases h
  | some b => cases h; exact ⟨rfl, rfl⟩
theorem ret_some {T α : Type} {b a : α} {t t' : T} (h : ret b t = some (a, t')) : b = a ∧ t' = t := by
  cases h; exact ⟨rfl, rfl⟩

/-! ## readings -/
section
variable {T : Type} (k : Kx) (C : Cell T)
/-- what may be read now: a list, a dict by their top, all else frozen -/
def Rd1 (H0 H : Hp) : D → V → Prop
  | .lst ds, v => ∃ l vs, v = .ref l ∧ H l = some (.lst vs) ∧ ¬ C.mu l ∧ RpA k H0 ds vs
  | .dct ks, v => ∃ l kvs, v = .ref l ∧ H l = some (.dK kvs) ∧ ¬ C.mu l ∧ RpK k H0 ks kvs
  | d, v => Rp k H0 d v
/-- the expression's value, frozen -/
def tD (f : Env → M T D) : TE := fun σ H Q => ∃ E0 En H0 ρ t d t', RS k C E0 En H0 H σ ρ t ∧ f ρ t = some (d, t') ∧
  ∀ H0' H' v, RS k C E0 En H0' H' σ ρ t' → Go C H0 H H0' H' → Rp k H0' d v → Q v H'
/-- .. to be read at once -/
def tB (f : Env → M T D) : TE := fun σ H Q => ∃ E0 En H0 ρ t d t', RS k C E0 En H0 H σ ρ t ∧ f ρ t = some (d, t') ∧
  ∀ H0' H' v, RS k C E0 En H0' H' σ ρ t' → Go C H0 H H0' H' → Rd1 k C H0' H' d v → Q v H'
/-- a list, a dict just made, of one's own -/
def tL (f : Env → M T (List D)) : TE := fun σ H Q => ∃ E0 En H0 ρ t d t', RS k C E0 En H0 H σ ρ t ∧ f ρ t = some (d, t') ∧
  ∀ H0' H' p vs, RS k C E0 En H0' H' σ ρ t' → Go C H0 H H0' H' → H p = none → H0' p = none → H' p = some (.lst vs) → RpA k H0' d vs → Q (.ref p) H'
def tK (f : Env → M T (List (Str × D))) : TE := fun σ H Q => ∃ E0 En H0 ρ t d t', RS k C E0 En H0 H σ ρ t ∧ f ρ t = some (d, t') ∧
  ∀ H0' H' p vs, RS k C E0 En H0' H' σ ρ t' → Go C H0 H H0' H' → H p = none → H0' p = none → H' p = some (.dK vs) → RpK k H0' d vs → Q (.ref p) H'
def tA (f : Env → M T (List D)) : TA := fun σ H Q => ∃ E0 En H0 ρ t d t', RS k C E0 En H0 H σ ρ t ∧ f ρ t = some (d, t') ∧
  ∀ H0' H' vs, RS k C E0 En H0' H' σ ρ t' → Go C H0 H H0' H' → RpA k H0' d vs → Q vs H'
/-- one argument, to be read at once -/
def tA1 (f : Env → M T D) : TA := fun σ H Q => ∃ E0 En H0 ρ t d t', RS k C E0 En H0 H σ ρ t ∧ f ρ t = some (d, t') ∧
  ∀ H0' H' v, RS k C E0 En H0' H' σ ρ t' → Go C H0 H H0' H' → Rd1 k C H0' H' d v → Q [v] H'
def tT (f : Env → M T Bool) : TT := fun σ H Q => ∃ E0 En H0 ρ t d t', RS k C E0 En H0 H σ ρ t ∧ f ρ t = some (d, t') ∧
  ∀ H0' H', RS k C E0 En H0' H' σ ρ t' → Go C H0 H H0' H' → Q d H'
abbrev ED (X : Cx) (e : Expr) (f : Env → M T D) : Prop := PE X e (tD k C f)
abbrev EB (X : Cx) (e : Expr) (f : Env → M T D) : Prop := PE X e (tB k C f)
abbrev EL (X : Cx) (e : Expr) (f : Env → M T (List D)) : Prop := PE X e (tL k C f)
abbrev EK (X : Cx) (e : Expr) (f : Env → M T (List (Str × D))) : Prop := PE X e (tK k C f)
abbrev EA (X : Cx) (es : List Expr) (f : Env → M T (List D)) : Prop := PA X es (tA k C f)
abbrev ET (X : Cx) (e : Expr) (f : Env → M T Bool) : Prop := PT X e (tT k C f)
abbrev EW (X : Cx) (e : Expr) (f : Env → M T Bool) : Prop := PW X e (tT k C f)
end
theorem pe_imp {X : Cx} {e : Expr} {t u : TE} (h : PE X e t) (i : ∀ σ H Q, u σ H Q → t σ H Q) : PE X e u := ⟨fun pins s σ H Q I q => h.run pins s σ H Q I (i σ H Q q)⟩
theorem pt_imp {X : Cx} {e : Expr} {t u : TT} (h : PT X e t) (i : ∀ σ H Q, u σ H Q → t σ H Q) : PT X e u := ⟨fun pins s σ H Q I q => h.run pins s σ H Q I (i σ H Q q)⟩
theorem pw_imp {X : Cx} {e : Expr} {t u : TT} (h : PW X e t) (i : ∀ σ H Q, u σ H Q → t σ H Q) : PW X e u := ⟨fun w pins s σ H Q I q => h.run w pins s σ H Q I (i σ H Q q)⟩
theorem pa_imp {X : Cx} {es : List Expr} {t u : TA} (h : PA X es t) (i : ∀ σ H Q, u σ H Q → t σ H Q) : PA X es u := ⟨fun pos pins s σ H Q I q => h.run pos pins s σ H Q I (i σ H Q q)⟩
theorem ps_imp {X : Cx} {st : Stmt} {t u : TS} (h : PS X st t) (i : ∀ D σ H, u D σ H → t D σ H) : PS X st u := ⟨fun pins s σ H D I q => h.run pins s σ H D I (i D σ H q)⟩
theorem pss_imp {X : Cx} {st : List Stmt} {t u : TS} (h : PSs X st t) (i : ∀ D σ H, u D σ H → t D σ H) : PSs X st u := ⟨fun pins s σ H D I q => h.run pins s σ H D I (i D σ H q)⟩

section
variable {T : Type} {k : Kx} {C : Cell T} {E0 En H0 H H0' H' : Hp} {σ : L2.St} {ρ : Env} {t t' : T} {d : D} {v : V} {ds : List D} {vs : List V} {ks : List (Str × D)} {kvs : List (Key × V)} {l : Addr}
/-! ### frozen is to be read -/
theorem rd_nomut (R : RS k C E0 En H0 H σ ρ t) {u : HO} (h : H0 l = some u) : ¬ C.mu l := fun z => by
  obtain ⟨h1, _⟩ := R.nomut z
  rw [h1] at h; cases h
theorem Rd1.of (R : RS k C E0 En H0 H σ ρ t) (h : Rp k H0 d v) : Rd1 k C H0 H d v := by
  cases h with
  | lst h r => exact ⟨_, _, rfl, R.sub _ _ h, rd_nomut R h, r⟩
  | dct h r => exact ⟨_, _, rfl, R.sub _ _ h, fun z => (by rw [(R.nomut z).1] at h; cases h), r⟩
  | non => exact .non
  | bl b => exact .bl b
  | int b => exact .int b
  | str b => exact .str b
  | tup h n r => exact .tup h n r
  | pr h r r2 => exact .pr h r r2
  | opq h r => exact .opq h r
  | tub => exact .tub
theorem Rd1.go (h : Rd1 k C H0 H d v) (g : Go C H0 H H0' H') : Rd1 k C H0' H' d v := by
  cases d with
  | lst ds =>
    obtain ⟨l, vs, e, a, n, r⟩ := h
    exact ⟨l, vs, e, g.act _ _ a n, n, r.ex g.base⟩
  | dct ds =>
    obtain ⟨l, vs, e, a, n, r⟩ := h
    exact ⟨l, vs, e, g.act _ _ a n, n, r.ex g.base⟩
  | non => exact Rp.ex g.base h
  | bl b => exact Rp.ex g.base h
  | int b => exact Rp.ex g.base h
  | str b => exact Rp.ex g.base h
  | tup b => exact Rp.ex g.base h
  | opq => exact Rp.ex g.base h
  | pr a b => exact Rp.ex g.base h
  | tub => exact Rp.ex g.base h
def seqOf : D → Option (List D)
  | .lst xs => some xs
  | .tup xs => some xs
  | .pr a b => some [a, b]
  | _ => none
/-- a sequence that may be read -/
theorem Rd1.seq (R : RS k C E0 En H0 H σ ρ t) (h : Rd1 k C H0 H d v) (e : seqOf d = some ds) : ∃ l vs, v = .ref l ∧ (H l = some (.lst vs) ∨ Rd H l (.tup vs)) ∧ RpA k H0 ds vs := by
  cases d <;> first | (cases e; done) | skip
  · cases e
    have h1 : Rp k H0 (.tup ds) v := h
    clear h
    cases h1 with
    | tup h2 n r => exact ⟨_, _, rfl, .inr (.inr ⟨_, R.sub _ _ h2⟩), r⟩
  · cases e
    obtain ⟨l, vs, e, a, n, r⟩ := h
    exact ⟨l, vs, e, .inl a, r⟩
  · next a b =>
    cases e
    have h1 : Rp k H0 (.pr a b) v := h
    clear h
    cases h1 with
    | pr h2 r r2 => exact ⟨_, _, rfl, .inr (.inl (R.sub _ _ h2)), .cons r (.cons r2 .nil)⟩

/-! ### expressions -/
variable {X : Cx} {a b c e : Expr} {es : List Expr} {pos : Pos} {fa fb fc : Env → M T D}
theorem eb_of (h : ED k C X e fa) : EB k C X e fa := pe_imp h fun σ H Q ⟨E0, En, H0, ρ, t, d, t', R, ev, q⟩ => ⟨E0, En, H0, ρ, t, d, t', R, ev, fun H0' H' v R' g r => q H0' H' v R' g (Rd1.of R' r)⟩
/-- a list just made, frozen -/
theorem ed_ofL {f : Env → M T (List D)} (h : EL k C X e f) : ED k C X e (fun ρ => bnd (f ρ) fun ds => ret (.lst ds)) := pe_imp h fun σ H Q ⟨E0, En, H0, ρ, t, d, t', R, ev, q⟩ => by
  obtain ⟨ds, t1, e1, e2⟩ := bnd_some ev
  obtain ⟨rfl, rfl⟩ := ret_some e2
  refine ⟨E0, En, H0, ρ, t, ds, t', R, e1, fun H0' H' p vs R' g np n0 hp r => ?_⟩
  have ho : ∀ i, ¬ Owns σ ρ i p := fun i z => by
    obtain ⟨_, _, u, hu⟩ := R.ownAt z
    rw [np] at hu; cases hu
  have R2 := R'.frz hp n0 (R.go.trk p np) ho
  refine q (upd H0' p (.lst vs)) H' _ R2 ⟨g.base.trans (ex_new n0), g.act, fun a z y => by
    rw [upd_ne (fun w => z (by rw [w]; exact np))]
    exact g.nof a z y, g.trk, g.ntb⟩ (.lst upd_same (r.ex (ex_new n0)))
theorem ed_ofK {f : Env → M T (List (Str × D))} (h : EK k C X e f) : ED k C X e (fun ρ => bnd (f ρ) fun ds => ret (.dct ds)) := pe_imp h fun σ H Q ⟨E0, En, H0, ρ, t, d, t', R, ev, q⟩ => by
  obtain ⟨ds, t1, e1, e2⟩ := bnd_some ev
  obtain ⟨rfl, rfl⟩ := ret_some e2
  refine ⟨E0, En, H0, ρ, t, ds, t', R, e1, fun H0' H' p vs R' g np n0 hp r => ?_⟩
  have ho : ∀ i, ¬ Owns σ ρ i p := fun i z => by
    obtain ⟨_, _, u, hu⟩ := R.ownAt z
    rw [np] at hu; cases hu
  have R2 := R'.frz hp n0 (R.go.trk p np) ho
  refine q (upd H0' p (.dK vs)) H' _ R2 ⟨g.base.trans (ex_new n0), g.act, fun a z y => by
    rw [upd_ne (fun w => z (by rw [w]; exact np))]
    exact g.nof a z y, g.trk, g.ntb⟩ (.dct upd_same (r.ex (ex_new n0)))
theorem eb_ofL {f : Env → M T (List D)} (h : EL k C X e f) : EB k C X e (fun ρ => bnd (f ρ) fun ds => ret (.lst ds)) := eb_of (ed_ofL h)

/-- a slot -/
def vV (i : Nat) (ρ : Env) : Option D := match ρ[i]? with
  | some (some (.val d)) => some d
  | _ => none
/-- .. its own list or dict too -/
def vB (i : Nat) (ρ : Env) : Option D := match ρ[i]? with
  | some (some (.val d)) => some d
  | some (some (.ol ds)) => some (.lst ds)
  | some (some (.od ks)) => some (.dct ks)
  | _ => none
theorem vV_some {i : Nat} {ρ : Env} {d : D} (h : vV i ρ = some d) : ρ[i]? = some (some (.val d)) := by
  unfold vV at h
  split at h
  · next e => cases h; exact e
  · cases h
theorem slot_at (R : RS k C E0 En H0 H σ ρ t) {i : Nat} {s : Option SV} (h : ρ[i]? = some s) : ∃ x, σ[i]? = some x ∧ SlotOk k En H0 H x s := by
  obtain ⟨hi, _⟩ := List.getElem?_eq_some_iff.mp h
  have hi' : i < σ.length := by rw [R.len]; exact hi
  exact ⟨σ[i], List.getElem?_eq_getElem hi', R.slot i _ _ (List.getElem?_eq_getElem hi') h⟩
theorem ed_var (i : Nat) {x : Str} (hN : X.N[i]? = some x := by rfl) (hv : Vis X.env.scope x := by first | exact Or.inl rfl | exact Or.inr (Or.inl rfl) | exact Or.inr (Or.inr rfl)) (hd : (x == ("__debug__" : Str)) = false := by decide)
    (hcd : (x == ("__classdict__" : Str)) = false := by decide) : ED k C X (.Name x pos) (fun ρ => lft (vV i ρ)) := pe_imp (pe_var hN hv hd hcd) fun σ H Q ⟨E0, En, H0, ρ, t, d, t', R, ev, q⟩ => by
  obtain ⟨e1, rfl⟩ := lft_some ev
  obtain ⟨x, h1, v, rfl, r⟩ := slot_at R (vV_some e1)
  exact ⟨v, h1, q H0 H v R Go.refl r⟩
theorem eb_var (i : Nat) {x : Str} (hN : X.N[i]? = some x := by rfl) (hv : Vis X.env.scope x := by first | exact Or.inl rfl | exact Or.inr (Or.inl rfl) | exact Or.inr (Or.inr rfl)) (hd : (x == ("__debug__" : Str)) = false := by decide)
    (hcd : (x == ("__classdict__" : Str)) = false := by decide) : EB k C X (.Name x pos) (fun ρ => lft (vB i ρ)) := pe_imp (pe_var hN hv hd hcd) fun σ H Q ⟨E0, En, H0, ρ, t, d, t', R, ev, q⟩ => by
  obtain ⟨e1, rfl⟩ := lft_some ev
  unfold vB at e1
  split at e1
  · next e =>
    cases e1
    obtain ⟨x, h1, v, rfl, r⟩ := slot_at R e
    exact ⟨v, h1, q H0 H v R Go.refl (Rd1.of R r)⟩
  · next e =>
    cases e1
    obtain ⟨x, h1, l, vs, rfl, a, b, c, r⟩ := slot_at R e
    exact ⟨_, h1, q H0 H _ R Go.refl ⟨l, vs, rfl, c, fun z => (R.mt l z).1 a, r⟩⟩
  · next e =>
    cases e1
    obtain ⟨x, h1, l, vs, rfl, a, b, c, r⟩ := slot_at R e
    exact ⟨_, h1, q H0 H _ R Go.refl ⟨l, vs, rfl, c, fun z => (R.mt l z).1 a, r⟩⟩
  · cases e1
theorem ed_c {v : V} (h : PE X e (tC v)) (hr : ∀ H, Rp k H d v) : ED k C X e (fun _ => ret d) := pe_imp h fun σ H Q ⟨E0, En, H0, ρ, t, d, t', R, ev, q⟩ => by
  obtain ⟨rfl, rfl⟩ := ret_some ev
  exact q H0 H v R Go.refl (hr H0)
theorem ed_int {i j} : ED k C X (.Constant (.int i) j pos) (fun _ => ret (.int i)) := ed_c pe_int fun _ => .int i
theorem ed_bl {i j} : ED k C X (.Constant (.bool i) j pos) (fun _ => ret (.bl i)) := ed_c pe_bl fun _ => .bl i
theorem ed_str {i j} : ED k C X (.Constant (.str i) j pos) (fun _ => ret (.str i)) := ed_c pe_str fun _ => .str i
theorem ed_non {j} : ED k C X (.Constant .none j pos) (fun _ => ret .non) := ed_c pe_non fun _ => .non

/-! ### arguments, displays -/
theorem ea_nil : EA k C X [] (fun _ => ret []) := pa_imp pa_nil fun σ H Q ⟨E0, En, H0, ρ, t, d, t', R, ev, q⟩ => by
  obtain ⟨rfl, rfl⟩ := ret_some ev
  exact q H0 H [] R Go.refl .nil
theorem ea_cons {fr : Env → M T (List D)} (ha : ED k C X e fa) (hr : EA k C X es fr) (hs : starEach (e :: es) X.env = (false, eval e X.env) :: starEach es X.env := by rfl) :
    EA k C X (e :: es) (fun ρ => bnd (fa ρ) fun x => bnd (fr ρ) fun xs => ret (x :: xs)) := pa_imp (pa_cons ha hr hs) fun σ H Q ⟨E0, En, H0, ρ, t, d, t', R, ev, q⟩ => by
  obtain ⟨x, t1, e1, ev⟩ := bnd_some ev
  obtain ⟨xs, t2, e2, ev⟩ := bnd_some ev
  obtain ⟨rfl, rfl⟩ := ret_some ev
  exact ⟨E0, En, H0, ρ, t, x, t1, R, e1, fun H1 H1' v R1 g1 r1 => ⟨E0, En, H1, ρ, t1, xs, t', R1, e2, fun H2 H2' vs R2 g2 r2 => q H2 H2' _ R2 (g1.trans g2) (.cons (r1.ex g2.base) r2)⟩⟩
theorem ea_star {p : Pos} {fr : Env → M T (List D)} (ha : EB k C X e fa) (hr : EA k C X es fr) (hs : starEach (.Starred e p :: es) X.env = (true, eval e X.env) :: starEach es X.env := by rfl) :
    EA k C X (.Starred e p :: es) (fun ρ => bnd (fa ρ) fun x => bnd (lft (seqOf x)) fun ys => bnd (fr ρ) fun xs => ret (ys ++ xs)) := pa_imp (StX.pa_star ha hr hs) fun σ H Q ⟨E0, En, H0, ρ, t, d, t', R, ev, q⟩ => by
  obtain ⟨x, t1, e1, ev1⟩ := bnd_some ev
  obtain ⟨ys, t2, f2, ev2⟩ := bnd_some ev1
  obtain ⟨xs, t3, e3, ev3⟩ := bnd_some ev2
  obtain ⟨e2, rfl⟩ := lft_some f2
  obtain ⟨rfl, rfl⟩ := ret_some ev3
  refine ⟨E0, En, H0, ρ, t, x, t2, R, e1, fun H1 H1' v R1 g1 r1 => ?_⟩
  obtain ⟨l, vs, rfl, hl, r⟩ := r1.seq R1 e2
  exact ⟨l, vs, rfl, hl.symm.imp (fun h => .inl h) (fun h => .inl (.inl h)), E0, En, H1, ρ, t2, xs, t', R1, e3, fun H2 H2' ws R2 g2 r2 => q H2 H2' _ R2 (g1.trans g2) ((r.ex g2.base).append r2)⟩
/-- small enough -/
def sml (xs : List D) : Option (List D) := if xs.length ≤ 100000 then some xs else none
theorem sml_some {xs ys : List D} (h : sml xs = some ys) : xs = ys ∧ ys.length ≤ sizeLine ∧ ys.length < sizeLine := by
  unfold sml at h
  split at h
  · next e => cases h; exact ⟨rfl, Nat.le_trans e (by decide), Nat.lt_of_le_of_lt e (by decide)⟩
  · cases h
theorem ed_tup {x1} {f : Env → M T (List D)} (h : EA k C X es f) : ED k C X (.Tuple es x1 pos) (fun ρ => bnd (f ρ) fun xs => bnd (lft (sml xs)) fun xs => ret (.tup xs)) := pe_imp (pe_tupF h) fun σ H Q ⟨E0, En, H0, ρ, t, d, t', R, ev, q⟩ => by
  obtain ⟨x, t1, e1, ev1⟩ := bnd_some ev
  obtain ⟨ys, t2, f2, ev2⟩ := bnd_some ev1
  obtain ⟨rfl, rfl⟩ := ret_some ev2
  obtain ⟨e2, rfl⟩ := lft_some f2
  obtain ⟨rfl, hz, _⟩ := sml_some e2
  refine ⟨E0, En, H0, ρ, t, x, t', R, e1, fun H1 H1' vs R1 g1 r1 => ⟨by rw [← r1.length]; exact hz, fun p ob hp hn => ?_⟩⟩
  obtain ⟨R2, g2⟩ := R1.new (.frz ob (.tup vs)) hp
  exact q _ _ _ R2 (g1.trans g2) (.tup upd_same hn (r1.ex g2.base))
theorem el_lst {f : Env → M T (List D)} (h : EA k C X es f) : EL k C X (.List es pos) (fun ρ => bnd (f ρ) fun xs => lft (sml xs)) := pe_imp (pe_lst h) fun σ H Q ⟨E0, En, H0, ρ, t, d, t', R, ev, q⟩ => by
  obtain ⟨x, t1, e1, ev⟩ := bnd_some ev
  obtain ⟨e2, rfl⟩ := lft_some ev
  obtain ⟨rfl, hz, _⟩ := sml_some e2
  refine ⟨E0, En, H0, ρ, t, x, t', R, e1, fun H1 H1' vs R1 g1 r1 => ⟨by rw [← r1.length]; exact hz, fun p hp => ?_⟩⟩
  obtain ⟨R2, g2⟩ := R1.newO (.lst vs) hp
  exact q _ _ _ _ R2 (g1.trans g2) (g1.trk p hp) (R1.fresh hp).2.1 upd_same r1
theorem ek_new : EK k C X (.Dict [] [] pos) (fun _ => ret []) := pe_imp pe_dnewK fun σ H Q ⟨E0, En, H0, ρ, t, d, t', R, ev, q⟩ => fun p hp => by
  obtain ⟨rfl, rfl⟩ := ret_some ev
  obtain ⟨R2, g2⟩ := R.newO (.dK []) hp
  exact q _ _ _ _ R2 g2 hp (R.fresh hp).2.1 upd_same .nil

/-! ### operators -/
/-- an operation on two values that are read, its answer needs no heap -/
def OpOk (k : Kx) (C : Cell T) (r : R2) (g : D → D → Option D) : Prop := ∀ (E0 En H0 H : Hp) (σ : L2.St) (ρ : Env) (t : T) (x y d : D) (v u : V) (Q : VK), RS k C E0 En H0 H σ ρ t → Rd1 k C H0 H x v → Rd1 k C H0 H y u → g x y = some d → (∀ w, Rp k H0 d w → Q w H) → r v u H Q
theorem op_pf {r : R2} {g : D → D → Option D} (ok : OpOk k C r g) {Q : VK} (h : tD k C (fun ρ => bnd (fa ρ) fun x => bnd (fb ρ) fun y => lft (g x y)) σ H Q) : tOp r (tB k C fa) (tB k C fb) σ H Q := by
  obtain ⟨E0, En, H0, ρ, t, d, t', R, ev, q⟩ := h
  obtain ⟨x, t1, e1, ev⟩ := bnd_some ev
  obtain ⟨y, t2, e2, ev⟩ := bnd_some ev
  obtain ⟨e3, rfl⟩ := lft_some ev
  exact ⟨E0, En, H0, ρ, t, x, t1, R, e1, fun H1 H1' v R1 g1 r1 => ⟨E0, En, H1, ρ, t1, y, t', R1, e2, fun H2 H2' u R2 g2 r2 => ok E0 En H2 H2' σ ρ t' x y d v u Q R2 (r1.go g2) r2 e3 fun w hw => q H2 H2' w R2 (g1.trans g2) hw⟩⟩
theorem ed_op {op : Operator} {r : R2} {g : D → D → Option D} (ho : OpR X (binaryOp op) r) (ok : OpOk k C r g) (ha : EB k C X a fa) (hb : EB k C X b fb) : ED k C X (.BinOp a op b pos) (fun ρ => bnd (fa ρ) fun x => bnd (fb ρ) fun y => lft (g x y)) :=
  pe_imp (pe_op ho ha hb) fun _ _ _ h => op_pf ok h
theorem ed_cmp {op : CmpOp} {r : R2} {g : D → D → Option D} (ho : OpR X (compareOp op) r) (ok : OpOk k C r g) (ha : EB k C X a fa) (hb : EB k C X b fb) (hm : behindInMarks op b = false := by rfl) :
    ED k C X (.Compare a [op] [b] pos) (fun ρ => bnd (fa ρ) fun x => bnd (fb ρ) fun y => lft (g x y)) := pe_imp (pe_cmpR ho ha hb hm) fun _ _ _ h => op_pf ok h
theorem ed_ix {r : R2} {g : D → D → Option D} (ho : IxR X r) (ok : OpOk k C r g) (ha : EB k C X a fa) (hb : EB k C X b fb) (hs : PlainIx b := by exact fun _ _ => rfl) :
    ED k C X (.Subscript a b pos) (fun ρ => bnd (fa ρ) fun x => bnd (fb ρ) fun y => lft (g x y)) := pe_imp (pe_ix ho ha hb hs) fun _ _ _ h => op_pf ok h

/-! ints -/
def iI (g : Int → Int → Option Int) : D → D → Option D
  | .int i, .int j => (g i j).map .int
  | _, _ => none
def iB (g : Int → Int → Bool) : D → D → Option D
  | .int i, .int j => some (.bl (g i j))
  | _, _ => none
theorem ok_I {P : Int → Int → Prop} {h : Int → Int → Int} {g : Int → Int → Option Int} (hg : ∀ i j z, g i j = some z → P i j ∧ h i j = z) : OpOk k C (rI P fun i j => .int (h i j)) (iI g) := by
  intro E0 En H0 H σ ρ t x y d v u Q R rx ry e q
  unfold iI at e
  split at e
  · next i j =>
    cases (show Rp k H0 (.int i) v from rx)
    cases (show Rp k H0 (.int j) u from ry)
    cases eg : g i j with
    | none => rw [eg] at e; cases e
    | some z =>
      rw [eg] at e
      cases e
      obtain ⟨hp, rfl⟩ := hg i j z eg
      exact ⟨i, j, rfl, rfl, hp, q _ (.int _)⟩
  · cases e
theorem ok_I0 {h : Int → Int → Int} : OpOk k C (rI0 fun i j => .int (h i j)) (iI fun i j => some (h i j)) := by
  intro E0 En H0 H σ ρ t x y d v u Q R rx ry e q
  unfold iI at e
  split at e
  · next i j =>
    cases (show Rp k H0 (.int i) v from rx)
    cases (show Rp k H0 (.int j) u from ry)
    cases e
    exact ⟨i, j, rfl, rfl, q _ (.int _)⟩
  · cases e
theorem ok_B {h : Int → Int → Bool} : OpOk k C (rI0 fun i j => .bl (h i j)) (iB h) := by
  intro E0 En H0 H σ ρ t x y d v u Q R rx ry e q
  unfold iB at e
  split at e
  · next i j =>
    cases (show Rp k H0 (.int i) v from rx)
    cases (show Rp k H0 (.int j) u from ry)
    cases e
    exact ⟨i, j, rfl, rfl, q _ (.bl _)⟩
  · cases e
def mulI (i j : Int) : Option Int := if (-(2 ^ 64) < i ∧ i < 2 ^ 64) ∨ (-(2 ^ 64) < j ∧ j < 2 ^ 64) then some (i * j) else none
def modI (i j : Int) : Option Int := if 0 < j then some (i % j) else none
def fdivI (i j : Int) : Option Int := if 0 < j ∧ j < 1073741824 then some (i / j) else none
theorem ok_mul : OpOk k C (rI CMul fun i j => .int (i * j)) (iI mulI) := ok_I fun i j z e => by
  unfold mulI at e
  split at e
  · next h => cases e; exact ⟨h, rfl⟩
  · cases e
theorem ok_mod : OpOk k C (rI (fun _ j => 0 < j) fun i j => .int (i % j)) (iI modI) := ok_I fun i j z e => by
  unfold modI at e
  split at e
  · next h => cases e; exact ⟨h, rfl⟩
  · cases e
theorem ok_fdiv : OpOk k C (rI CDiv fun i j => .int (i / j)) (iI fdivI) := ok_I fun i j z e => by
  unfold fdivI at e
  split at e
  · next h => cases e; exact ⟨h, rfl⟩
  · cases e
theorem ed_neg (ha : EB k C X a fa) : ED k C X (.UnaryOp .USub a pos) (fun ρ => bnd (fa ρ) fun x => lft (match x with | .int i => some (.int (-i)) | _ => none)) := pe_imp (pe_un un_neg ha) fun σ H Q ⟨E0, En, H0, ρ, t, d, t', R, ev, q⟩ => by
  obtain ⟨x, t1, e1, ev⟩ := bnd_some ev
  obtain ⟨e3, rfl⟩ := lft_some ev
  refine ⟨E0, En, H0, ρ, t, x, t', R, e1, fun H1 H1' v R1 g1 r1 => ?_⟩
  cases x <;> first | (cases e3; done) | skip
  next i =>
    cases e3
    cases (show Rp k H1 (.int i) v from r1)
    exact ⟨i, rfl, q _ _ _ R1 g1 (.int _)⟩
end
end MM
/-! M3 -/
namespace MM
open PySem PySem.Spec PyProof.Rows L2

section
variable {T : Type} {k : Kx} {C : Cell T} {E0 En H0 H H0' H' : Hp} {σ : L2.St} {ρ : Env} {t t' : T} {d : D} {v : V} {ds : List D} {vs : List V} {ks : List (Str × D)} {kvs : List (Key × V)} {l : Addr}
variable {X : Cx} {a b c e : Expr} {es : List Expr} {pos : Pos} {fa fb fc : Env → M T D}

/-! ### == over data -/
mutual
def toPy : D → Option PyData
  | .non => some .none
  | .bl b => some (.bool b)
  | .int i => some (.int i)
  | .str s => some (.str s)
  | .tup xs => (toPys xs).map .tuple
  | .lst xs => (toPys xs).map .list
  | .pr a b => match toPy a, toPy b with
    | some x, some y => some (.tuple [x, y])
    | _, _ => none
  | _ => none
def toPys : List D → Option (List PyData)
  | [] => some []
  | d :: ds => match toPy d, toPys ds with
    | some a, some as => some (a :: as)
    | _, _ => none
end
mutual
theorem dp_of {K : PySem.W.Frag} : ∀ {d : D} {v : V} {p : PyData}, Rp k H d v → toPy d = some p → Dp K H v p
  | _, _, _, .non, e => by cases e; exact .non
  | _, _, _, .bl b, e => by cases e; exact .bl b
  | _, _, _, .int b, e => by cases e; exact .int b
  | _, _, _, .str b, e => by cases e; exact .str b
  | .tup ds, _, p, .tup h n r, e => by
    cases q : toPys ds with
    | none => unfold toPy at e; rw [q] at e; cases e
    | some ps =>
      unfold toPy at e
      rw [q] at e
      cases e
      exact .tup (.inl (.inr ⟨_, h⟩)) (dps_of r q)
  | .lst ds, _, p, .lst h r, e => by
    cases q : toPys ds with
    | none => unfold toPy at e; rw [q] at e; cases e
    | some ps =>
      unfold toPy at e
      rw [q] at e
      cases e
      exact .lst (.inl (.inl h)) (dps_of r q)
  | .pr a b, _, p, .pr h r r2, e => by
    unfold toPy at e
    cases q : toPy a with
    | none => rw [q] at e; cases e
    | some x =>
      cases q2 : toPy b with
      | none => rw [q, q2] at e; cases e
      | some y =>
        rw [q, q2] at e
        cases e
        exact .tup (.inl (.inl h)) (.cons (dp_of r q) (.cons (dp_of r2 q2) .nil))
  | _, _, _, .dct _ _, e => by unfold toPy at e; cases e
  | _, _, _, .opq _ _, e => by unfold toPy at e; cases e
  | _, _, _, .tub, e => by unfold toPy at e; cases e
theorem dps_of {K : PySem.W.Frag} : ∀ {ds : List D} {vs : List V} {ps : List PyData}, RpA k H ds vs → toPys ds = some ps → DpAll K H vs ps
  | _, _, _, .nil, e => by unfold toPys at e; cases e; exact .nil
  | d :: ds, _, ps, .cons h r, e => by
    unfold toPys at e
    cases q : toPy d with
    | none => rw [q] at e; cases e
    | some x =>
      cases q2 : toPys ds with
      | none => rw [q, q2] at e; cases e
      | some xs =>
        rw [q, q2] at e
        cases e
        exact .cons (dp_of h q) (dps_of r q2)
end
theorem dp_of1 {K : PySem.W.Frag} {p : PyData} (R : RS k C E0 En H0 H σ ρ t) (h : Rd1 k C H0 H d v) (e : toPy d = some p) : Dp K H v p := by
  cases d with
  | lst ds =>
    obtain ⟨l, vs, rfl, h1, _, h2⟩ := h
    exact dp_of (k := k) (d := .lst ds) (.lst h1 (h2.ex R.sub)) e
  | dct ds => unfold toPy at e; cases e
  | non => exact dp_of (Rp.ex R.sub h) e
  | bl b => exact dp_of (Rp.ex R.sub h) e
  | int b => exact dp_of (Rp.ex R.sub h) e
  | str b => exact dp_of (Rp.ex R.sub h) e
  | tup b => exact dp_of (Rp.ex R.sub h) e
  | pr a b => exact dp_of (Rp.ex R.sub h) e
  | opq => unfold toPy at e; cases e
  | tub => unfold toPy at e; cases e
def eqB (x y : D) : Option Bool := match toPy x, toPy y with
  | some a, some b => if SeqAt.shaped a && SeqAt.shaped b then some (PyData.eqv a b) else none
  | _, _ => none
def eqD (neg : Bool) (x y : D) : Option D := (eqB x y).map fun b => .bl (if neg then !b else b)
theorem eqB_some {K : PySem.W.Frag} {x y : D} {v u : V} {b : Bool} (R : RS k C E0 En H0 H σ ρ t) (rx : Rd1 k C H0 H x v) (ry : Rd1 k C H0 H y u) (e : eqB x y = some b) :
    ∃ p q, Dp K H v p ∧ Dp K H u q ∧ SeqAt.shaped p = true ∧ SeqAt.shaped q = true ∧ PyData.eqv p q = b := by
  unfold eqB at e
  cases e1 : toPy x with
  | none => rw [e1] at e; cases e
  | some p =>
    cases e2 : toPy y with
    | none => rw [e1, e2] at e; cases e
    | some q =>
      rw [e1, e2] at e
      simp only at e
      split at e
      · next h =>
        cases e
        obtain ⟨h1, h2⟩ := Bool.and_eq_true_iff.mp h
        exact ⟨p, q, dp_of1 R rx e1, dp_of1 R ry e2, h1, h2, rfl⟩
      · cases e
theorem ok_eq {K : PySem.W.Frag} : OpOk k C (rEqD K) (eqD false) := by
  intro E0 En H0 H σ ρ t x y d v u Q R rx ry e q
  unfold eqD at e
  cases h : eqB x y with
  | none => rw [h] at e; cases e
  | some b =>
    rw [h] at e
    cases e
    obtain ⟨p, p', h1, h2, h3, h4, h5⟩ := eqB_some (K := K) R rx ry h
    exact ⟨p, p', h1, h2, h3, h4, by rw [h5]; exact q _ (.bl b)⟩
theorem ok_ne {K : PySem.W.Frag} : OpOk k C (rNeD K) (eqD true) := by
  intro E0 En H0 H σ ρ t x y d v u Q R rx ry e q
  unfold eqD at e
  cases h : eqB x y with
  | none => rw [h] at e; cases e
  | some b =>
    rw [h] at e
    cases e
    obtain ⟨p, p', h1, h2, h3, h4, h5⟩ := eqB_some (K := K) R rx ry h
    exact ⟨p, p', h1, h2, h3, h4, by rw [h5]; exact q _ (.bl (!b))⟩

/-! ### in -/
def txts : List D → Option (List Str)
  | [] => some []
  | .str x :: ds => (txts ds).map (x :: ·)
  | _ => none
theorem strs_vals : ∀ {ds : List D} {vs : List V} {xs : List Str}, RpA k H ds vs → txts ds = some xs → vs = xs.map V.str
  | [], _, _, .nil, e => by cases e; rfl
  | d :: ds, _, xs, .cons h r, e => by
    cases h <;> first | (unfold txts at e; cases e; done) | skip
    next x vs =>
      unfold txts at e
      cases q : txts ds with
      | none => rw [q] at e; cases e
      | some ys =>
        rw [q] at e
        cases e
        rw [strs_vals r q]
        rfl
def inD (neg : Bool) : D → D → Option D
  | .str x, d => match seqOf d with
    | some ds => (txts ds).map fun ys => .bl (if neg then !ys.any (· == x) else ys.any (· == x))
    | none => none
  | _, _ => none
theorem inV_str (x : Str) (ys : List Str) : inV (.str x) (ys.map V.str) = ys.any (· == x) := by
  unfold inV
  rw [List.any_map]
  rfl
theorem flat_strs (ys : List Str) : (ys.map V.str).all flatV = true := by
  rw [List.all_map]
  exact List.all_eq_true.mpr fun _ _ => rfl
theorem ok_in {K : PySem.W.Frag} {neg : Bool} : OpOk k C (rIn K neg) (inD neg) := by
  intro E0 En H0 H σ ρ t x y d v u Q R rx ry e q
  cases x with
  | str x =>
    cases (show Rp k H0 (.str x) v from rx)
    unfold inD at e
    cases hs : seqOf y with
    | none => simp only [hs] at e; cases e
    | some ds =>
      simp only [hs] at e
      cases h : txts ds with
      | none => rw [h] at e; cases e
      | some ys =>
        rw [h] at e
        cases e
        obtain ⟨l, vs, rfl, hl, r⟩ := ry.seq R hs
        have ev := strs_vals r h
        subst ev
        refine ⟨l, _, rfl, hl.imp (fun h => .inl (.inl h)) (fun h => .inl h), rfl, flat_strs ys, ?_⟩
        rw [inV_str]
        exact q _ (.bl _)
  | _ => unfold inD at e; cases e
/-- a key's value -/
def dget : List (Str × D) → Str → Option D
  | [], _ => none
  | (y, d) :: r, x => if y = x then some d else dget r x
theorem dget_val : ∀ {ks : List (Str × D)} {kvs : List (Key × V)} (x : Str), RpK k H ks kvs → match dget ks x with
    | none => valV kvs (.inr x) = none
    | some d => ∃ v, valV kvs (.inr x) = some v ∧ Rp k H d v
  | [], _, x, .nil => rfl
  | (y, d) :: ds, _, x, .cons (v := v) h r => by
    unfold dget
    by_cases e : y = x
    · rw [if_pos e]
      exact ⟨v, valV_pos (congrArg Sum.inr e), h⟩
    · rw [if_neg e]
      have ih := dget_val x r
      have hn : ¬ (Sum.inr y : Key) = Sum.inr x := fun z => e (Sum.inr.inj z)
      rw [valV_neg (p := (Sum.inr y, v)) hn]
      exact ih
def inK (neg : Bool) : D → D → Option D
  | .str x, .dct ks => some (.bl (if neg then !(dget ks x).isSome else (dget ks x).isSome))
  | _, _ => none
theorem key_at (r : RpK k H0 ks kvs) (x : Str) : (valV kvs (.inr x)).isSome = (dget ks x).isSome := by
  have h := dget_val x r
  cases q : dget ks x with
  | none => rw [q] at h; rw [show valV kvs (.inr x) = none from h]; rfl
  | some d =>
    rw [q] at h
    obtain ⟨v, e, _⟩ := h
    rw [e]
    rfl
def rInK (neg : Bool) : R2 := fun y x H Q => ∃ a o, x = .ref a ∧ DGet H a y o ∧ Q (.bl (if neg then !o.isSome else o.isSome)) H
theorem ok_inK {neg : Bool} : OpOk k C (rInK neg) (inK neg) := by
  intro E0 En H0 H σ ρ t x y d v u Q R rx ry e q
  unfold inK at e
  split at e
  · next x ks =>
    cases (show Rp k H0 (.str x) v from rx)
    cases e
    obtain ⟨l, kvs, rfl, h1, _, r⟩ := ry
    refine ⟨l, _, rfl, DGet.k (k := Sum.inr x) h1, ?_⟩
    rw [key_at r x]
    exact q _ (.bl _)
  · cases e
theorem ed_inK (hu : X.A.units + 1 < cLine) (ha : EB k C X a fa) (hb : EB k C X b fb) (h1 : behindInMarks .In b = false := by rfl) : ED k C X (.Compare a [.In] [b] pos) (fun ρ => bnd (fa ρ) fun x => bnd (fb ρ) fun y => lft (inK false x y)) :=
  pe_imp (pe_cmp (pc_din hu ha hb) h1) fun _ _ _ h => op_pf (ok_inK (neg := false)) h
theorem ed_ninK (hu : X.A.units + 1 < cLine) (ha : EB k C X a fa) (hb : EB k C X b fb) (h1 : behindInMarks .NotIn b = false := by rfl) : ED k C X (.Compare a [.NotIn] [b] pos) (fun ρ => bnd (fa ρ) fun x => bnd (fb ρ) fun y => lft (inK true x y)) :=
  pe_imp (pe_cmp (pc_dnotin hu ha hb) h1) fun _ _ _ h => op_pf (ok_inK (neg := true)) h
/-- d[k] of a dict -/
def idxK : D → D → Option D
  | .dct ks, .str x => dget ks x
  | _, _ => none
theorem ed_dget (hu : X.A.units + 1 < cLine) (ha : EB k C X a fa) (hb : EB k C X b fb) (hs : NoSl b := by exact fun _ _ => rfl) : ED k C X (.Subscript a b pos) (fun ρ => bnd (fa ρ) fun x => bnd (fb ρ) fun y => lft (idxK x y)) :=
  pe_imp (pe_dget hu ha hb hs) fun σ H Q h => op_pf (r := fun x y H Q => ∃ a v, x = .ref a ∧ DGet H a y (some v) ∧ Q v H) (by
    intro E0 En H0 H σ ρ t x y d v u Q R rx ry e q
    unfold idxK at e
    split at e
    · next ks x =>
      cases (show Rp k H0 (.str x) u from ry)
      obtain ⟨l, kvs, rfl, h1, _, r⟩ := rx
      have h := dget_val x r
      rw [e] at h
      obtain ⟨w, ew, rw'⟩ := h
      exact ⟨l, w, rfl, by rw [← ew]; exact DGet.k (k := Sum.inr x) h1, q w rw'⟩
    · cases e) h
/-- d.get(k), d.get(k, x) -/
def getK (dflt : D) : D → D → Option D
  | .dct ks, .str x => some ((dget ks x).getD dflt)
  | _, _ => none
theorem ed_get1 {apos cpos : Pos} (hu : X.A.units + 1 < cLine) (ha : EB k C X a fa) (hb : EB k C X b fb) (m : M1 X a "get" apos b cpos := by exact ⟨rfl, rfl, rfl, rfl⟩) :
    ED k C X (.Call (.Attribute a "get" apos) [b] [] cpos) (fun ρ => bnd (fa ρ) fun x => bnd (fb ρ) fun y => lft (getK .non x y)) := pe_imp (pe_dget1 hu ha hb m) fun σ H Q ⟨E0, En, H0, ρ, t, d, t', R, ev, q⟩ => by
  obtain ⟨x, t1, e1, ev1⟩ := bnd_some ev
  obtain ⟨y, t2, e2, ev2⟩ := bnd_some ev1
  obtain ⟨e3, rfl⟩ := lft_some ev2
  refine ⟨E0, En, H0, ρ, t, x, t1, R, e1, fun H1 H1' v R1 g1 r1 => ?_⟩
  unfold getK at e3
  split at e3
  · next ks z =>
    cases e3
    obtain ⟨l, kvs, rfl, h1, nm, r⟩ := id r1
    refine ⟨l, rfl, .inl ⟨kvs, .inl h1⟩, E0, En, H1, ρ, t1, .str z, t', R1, e2, fun H2 H2' u R2 g2 r2 => ?_⟩
    cases (show Rp k H2 (.str z) u from r2)
    obtain ⟨l', kvs', e', h2, _, r'⟩ := r1.go g2
    cases e'
    refine ⟨_, DGet.k (k := Sum.inr z) h2, q _ _ _ R2 (g1.trans g2) ?_⟩
    have h := dget_val z r'
    cases qq : dget ks z with
    | none => rw [qq] at h; rw [show valV kvs' (.inr z) = none from h]; exact .non
    | some dd =>
      rw [qq] at h
      obtain ⟨w, ew, rw'⟩ := h
      rw [ew]
      exact rw'
  · cases e3
theorem ed_get2 {apos cpos : Pos} {z : Str} {f : Expr} (hu : X.A.units + 1 < cLine) (ha : EB k C X a fa) (hb : EB k C X b fb) (hf : PE X f (tC (.str z))) (m : M2 X a "get" apos b f cpos := by exact ⟨rfl, rfl, rfl, rfl⟩) :
    ED k C X (.Call (.Attribute a "get" apos) [b, f] [] cpos) (fun ρ => bnd (fa ρ) fun x => bnd (fb ρ) fun y => lft (getK (.str z) x y)) := pe_imp (pe_dget2 hu ha hb hf m) fun σ H Q ⟨E0, En, H0, ρ, t, d, t', R, ev, q⟩ => by
  obtain ⟨x, t1, e1, ev1⟩ := bnd_some ev
  obtain ⟨y, t2, e2, ev2⟩ := bnd_some ev1
  obtain ⟨e3, rfl⟩ := lft_some ev2
  refine ⟨E0, En, H0, ρ, t, x, t1, R, e1, fun H1 H1' v R1 g1 r1 => ?_⟩
  unfold getK at e3
  split at e3
  · next ks z' =>
    cases e3
    obtain ⟨l, kvs, rfl, h1, nm, r⟩ := id r1
    refine ⟨l, rfl, .inl ⟨kvs, .inl h1⟩, E0, En, H1, ρ, t1, .str z', t', R1, e2, fun H2 H2' u R2 g2 r2 => ?_⟩
    cases (show Rp k H2 (.str z') u from r2)
    obtain ⟨l', kvs', e', h2, _, r'⟩ := r1.go g2
    cases e'
    refine ⟨_, DGet.k (k := Sum.inr z') h2, q _ _ _ R2 (g1.trans g2) ?_⟩
    have h := dget_val z' r'
    cases qq : dget ks z' with
    | none => rw [qq] at h; rw [show valV kvs' (.inr z') = none from h]; exact .str _
    | some dd =>
      rw [qq] at h
      obtain ⟨w, ew, rw'⟩ := h
      rw [ew]
      exact rw'
  · cases e3
/-- xs[i] of a list or tuple -/
def idxL : D → D → Option D
  | d, .int i => match seqOf d with
    | some ds => atI ds i
    | none => none
  | _, _ => none
theorem RpA.atI {i : Int} (r : RpA k H ds vs) (h : L2.atI ds i = some d) : ∃ v, L2.atI vs i = some v ∧ Rp k H d v := by
  unfold L2.atI at h ⊢
  rw [← r.length]
  cases e : ixN ds.length i with
  | none => rw [e] at h; cases h
  | some j =>
    rw [e] at h
    obtain ⟨v, h1, h2⟩ := r.get h
    exact ⟨v, h1, h2⟩
theorem ok_ix {K : PySem.W.Frag} : OpOk k C (fun x y H Q => rIxL K x y H Q ∨ rIxT K x y H Q) idxL := by
  intro E0 En H0 H σ ρ t x y d v u Q R rx ry e q
  unfold idxL at e
  split at e
  · next x i =>
    cases (show Rp k H0 (.int i) u from ry)
    split at e
    · next ds hs =>
      obtain ⟨l, vs, rfl, hl, r⟩ := rx.seq R hs
      obtain ⟨w, h1, h2⟩ := r.atI e
      rcases hl with hl | hl
      · exact .inl ⟨l, vs, i, w, rfl, rfl, .inl (.inl hl), h1, q w h2⟩
      · exact .inr ⟨l, vs, i, w, rfl, rfl, .inl hl, h1, q w h2⟩
    · cases e
  · cases e
theorem ix_lt : IxR X (fun x y H Q => rIxL X.K x y H Q ∨ rIxT X.K x y H Q) := ix_list.or ix_tup

/-! ### is None -/
def isNon : D → Bool
  | .non => true
  | _ => false
theorem rp_non (h : Rp k H d v) : decide (v = .non) = isNon d := by
  cases h <;> rfl
theorem rd_non (h : Rd1 k C H0 H d v) : decide (v = .non) = isNon d := by
  cases d with
  | lst ds => obtain ⟨l, vs, rfl, _⟩ := h; rfl
  | dct ds => obtain ⟨l, vs, rfl, _⟩ := h; rfl
  | _ => exact rp_non (k := k) (H := H0) h
theorem ed_isN {j p2} (ha : EB k C X a fa) : ED k C X (.Compare a [.Is] [.Constant .none j p2] pos) (fun ρ => bnd (fa ρ) fun x => ret (.bl (isNon x))) := pe_imp (pe_cmp (pc_isN ha)) fun σ H Q ⟨E0, En, H0, ρ, t, d, t', R, ev, q⟩ => by
  obtain ⟨x, t1, e1, ev1⟩ := bnd_some ev
  obtain ⟨rfl, rfl⟩ := ret_some ev1
  refine ⟨E0, En, H0, ρ, t, x, t', R, e1, fun H1 H1' v R1 g1 r1 => ?_⟩
  show Q (V.bl (decide (v = V.non))) H1'
  rw [rd_non r1]
  exact q _ _ _ R1 g1 (.bl _)
theorem ed_notN {j p2} (ha : EB k C X a fa) : ED k C X (.Compare a [.IsNot] [.Constant .none j p2] pos) (fun ρ => bnd (fa ρ) fun x => ret (.bl (!isNon x))) := pe_imp (pe_cmp (pc_notN ha)) fun σ H Q ⟨E0, En, H0, ρ, t, d, t', R, ev, q⟩ => by
  obtain ⟨x, t1, e1, ev1⟩ := bnd_some ev
  obtain ⟨rfl, rfl⟩ := ret_some ev1
  refine ⟨E0, En, H0, ρ, t, x, t', R, e1, fun H1 H1' v R1 g1 r1 => ?_⟩
  show Q (V.bl (!decide (v = V.non))) H1'
  rw [rd_non r1]
  exact q _ _ _ R1 g1 (.bl _)

/-! ### tests -/
def asB : D → Option Bool
  | .bl b => some b
  | _ => none
theorem asB_some {b : Bool} (h : asB d = some b) : d = .bl b := by
  cases d <;> first | (cases h; done) | (cases h; rfl)
theorem tst_pf {f : Env → M T D} {Q : Bool → Hp → Prop} (h : tT k C (fun ρ => bnd (f ρ) fun x => lft (asB x)) σ H Q) : tTest (tD k C f) σ H Q := by
  obtain ⟨E0, En, H0, ρ, t, d, t', R, ev, q⟩ := h
  obtain ⟨x, t1, e1, ev1⟩ := bnd_some ev
  obtain ⟨e2, rfl⟩ := lft_some ev1
  have hx := asB_some e2
  subst hx
  refine ⟨E0, En, H0, ρ, t, _, t', R, e1, fun H1 H1' v R1 g1 r1 => ?_⟩
  cases r1
  exact ⟨d, rfl, q _ _ R1 g1⟩
theorem et_val {f : Env → M T D} (h : ED k C X e f) (he : ∀ whole, isTrue e X.env whole = (do let v ← whole; standAt e.pos; holding [v] (truthy v)) := by intro _; rfl) : ET k C X e (fun ρ => bnd (f ρ) fun x => lft (asB x)) :=
  pt_imp (pt_val h he) fun _ _ _ h => tst_pf h
theorem et_cmp {op : CmpOp} {r : R2} {g : D → D → Option D} (ho : OpR X (compareOp op) r) (ok : OpOk k C r g) (ha : EB k C X a fa) (hb : EB k C X b fb) (hm : behindInMarks op b = false := by rfl) :
    ET k C X (.Compare a [op] [b] pos) (fun ρ => bnd (bnd (fa ρ) fun x => bnd (fb ρ) fun y => lft (g x y)) fun x => lft (asB x)) := pt_imp (pt_cmpR ho ha hb hm) fun σ H Q h => by
  obtain ⟨E0, En, H0, ρ, t, d, t', R, ev, q⟩ := tst_pf (f := fun ρ => bnd (fa ρ) fun x => bnd (fb ρ) fun y => lft (g x y)) h
  exact op_pf ok ⟨E0, En, H0, ρ, t, d, t', R, ev, q⟩
theorem et_inK (hu : X.A.units + 1 < cLine) (ha : EB k C X a fa) (hb : EB k C X b fb) (h1 : behindInMarks .In b = false := by rfl) : ET k C X (.Compare a [.In] [b] pos) (fun ρ => bnd (bnd (fa ρ) fun x => bnd (fb ρ) fun y => lft (inK false x y)) fun x => lft (asB x)) :=
  pt_imp (pt_cmp (pc_din hu ha hb) h1) fun σ H Q h => by
  obtain ⟨E0, En, H0, ρ, t, d, t', R, ev, q⟩ := tst_pf (f := fun ρ => bnd (fa ρ) fun x => bnd (fb ρ) fun y => lft (inK false x y)) h
  exact op_pf (ok_inK (neg := false)) ⟨E0, En, H0, ρ, t, d, t', R, ev, q⟩
theorem et_ninK (hu : X.A.units + 1 < cLine) (ha : EB k C X a fa) (hb : EB k C X b fb) (h1 : behindInMarks .NotIn b = false := by rfl) : ET k C X (.Compare a [.NotIn] [b] pos) (fun ρ => bnd (bnd (fa ρ) fun x => bnd (fb ρ) fun y => lft (inK true x y)) fun x => lft (asB x)) :=
  pt_imp (pt_cmp (pc_dnotin hu ha hb) h1) fun σ H Q h => by
  obtain ⟨E0, En, H0, ρ, t, d, t', R, ev, q⟩ := tst_pf (f := fun ρ => bnd (fa ρ) fun x => bnd (fb ρ) fun y => lft (inK true x y)) h
  exact op_pf (ok_inK (neg := true)) ⟨E0, En, H0, ρ, t, d, t', R, ev, q⟩
theorem et_isN {j p2} (ha : EB k C X a fa) : ET k C X (.Compare a [.Is] [.Constant .none j p2] pos) (fun ρ => bnd (fa ρ) fun x => ret (isNon x)) := pt_imp (pt_cmp (pc_isN ha)) fun σ H Q ⟨E0, En, H0, ρ, t, d, t', R, ev, q⟩ => by
  obtain ⟨x, t1, e1, ev1⟩ := bnd_some ev
  obtain ⟨rfl, rfl⟩ := ret_some ev1
  refine ⟨E0, En, H0, ρ, t, x, t', R, e1, fun H1 H1' v R1 g1 r1 => ?_⟩
  exact ⟨_, congrArg V.bl (rd_non r1), q _ _ R1 g1⟩
theorem et_notN {j p2} (ha : EB k C X a fa) : ET k C X (.Compare a [.IsNot] [.Constant .none j p2] pos) (fun ρ => bnd (fa ρ) fun x => ret (!isNon x)) := pt_imp (pt_cmp (pc_notN ha)) fun σ H Q ⟨E0, En, H0, ρ, t, d, t', R, ev, q⟩ => by
  obtain ⟨x, t1, e1, ev1⟩ := bnd_some ev
  obtain ⟨rfl, rfl⟩ := ret_some ev1
  refine ⟨E0, En, H0, ρ, t, x, t', R, e1, fun H1 H1' v R1 g1 r1 => ?_⟩
  exact ⟨_, congrArg (fun z => V.bl (!z)) (rd_non r1), q _ _ R1 g1⟩
theorem et_not {f : Env → M T Bool} (h : ET k C X a f) : ET k C X (.UnaryOp .Not a pos) (fun ρ => bnd (f ρ) fun b => ret (!b)) := pt_imp (pt_not h) fun σ H Q ⟨E0, En, H0, ρ, t, d, t', R, ev, q⟩ => by
  obtain ⟨x, t1, e1, ev1⟩ := bnd_some ev
  obtain ⟨rfl, rfl⟩ := ret_some ev1
  exact ⟨E0, En, H0, ρ, t, x, t', R, e1, fun H1 H1' R1 g1 => q _ _ R1 g1⟩
variable {rest : List Expr}
theorem ew_one_or {f : Env → M T Bool} (h : ET k C X a f) : EW k C X (.BoolOp .Or [a] pos) f := pw_imp (pw_or1 h) fun _ _ _ h => h
theorem ew_one_and {f : Env → M T Bool} (h : ET k C X a f) : EW k C X (.BoolOp .And [a] pos) f := pw_imp (pw_and1 h) fun _ _ _ h => h
theorem ew_or {f g : Env → M T Bool} (h : ET k C X a f) (h2 : EW k C X (.BoolOp .Or (b :: rest) pos) g) : EW k C X (.BoolOp .Or (a :: b :: rest) pos) (fun ρ => bnd (f ρ) fun x => match x with | true => ret true | false => g ρ) :=
  pw_imp (pw_or h h2) fun σ H Q ⟨E0, En, H0, ρ, t, d, t', R, ev, q⟩ => by
  obtain ⟨x, t1, e1, ev1⟩ := bnd_some ev
  refine ⟨E0, En, H0, ρ, t, x, t1, R, e1, fun H1 H1' R1 g1 => ?_⟩
  cases x with
  | true =>
    obtain ⟨rfl, rfl⟩ := ret_some ev1
    exact iteT (q _ _ R1 g1)
  | false => exact iteF ⟨E0, En, H1, ρ, t1, d, t', R1, ev1, fun H2 H2' R2 g2 => q _ _ R2 (g1.trans g2)⟩
theorem ew_and {f g : Env → M T Bool} (h : ET k C X a f) (h2 : EW k C X (.BoolOp .And (b :: rest) pos) g) : EW k C X (.BoolOp .And (a :: b :: rest) pos) (fun ρ => bnd (f ρ) fun x => match x with | true => g ρ | false => ret false) :=
  pw_imp (pw_and h h2) fun σ H Q ⟨E0, En, H0, ρ, t, d, t', R, ev, q⟩ => by
  obtain ⟨x, t1, e1, ev1⟩ := bnd_some ev
  refine ⟨E0, En, H0, ρ, t, x, t1, R, e1, fun H1 H1' R1 g1 => ?_⟩
  cases x with
  | false =>
    obtain ⟨rfl, rfl⟩ := ret_some ev1
    exact iteF (q _ _ R1 g1)
  | true => exact iteT ⟨E0, En, H1, ρ, t1, d, t', R1, ev1, fun H2 H2' R2 g2 => q _ _ R2 (g1.trans g2)⟩
theorem et_w {f : Env → M T Bool} (h : EW k C X e f) : ET k C X e f := h.pt
/-- as values -/
theorem ed_or1 {f : Env → M T D} (h : ED k C X a f) : ED k C X (.BoolOp .Or [a] pos) f := pe_one h
theorem ed_and1 {f : Env → M T D} (h : ED k C X a f) : ED k C X (.BoolOp .And [a] pos) f := pe_one h
theorem ed_or {f g : Env → M T D} (h : ED k C X a f) (h2 : ED k C X (.BoolOp .Or (b :: rest) pos) g) : ED k C X (.BoolOp .Or (a :: b :: rest) pos) (fun ρ => bnd (f ρ) fun x => bnd (lft (asB x)) fun x => match x with | true => ret (.bl true) | false => g ρ) :=
  pe_imp (pe_or h h2) fun σ H Q ⟨E0, En, H0, ρ, t, d, t', R, ev, q⟩ => by
  obtain ⟨x, t1, e1, ev1⟩ := bnd_some ev
  obtain ⟨y, t2, f2, ev2⟩ := bnd_some ev1
  obtain ⟨e2, rfl⟩ := lft_some f2
  have hx := asB_some e2
  subst hx
  refine ⟨E0, En, H0, ρ, t, _, t2, R, e1, fun H1 H1' v R1 g1 r1 => ?_⟩
  cases r1
  refine ⟨y, rfl, ?_⟩
  cases y with
  | true =>
    obtain ⟨rfl, rfl⟩ := ret_some ev2
    exact iteT (q _ _ _ R1 g1 (.bl _))
  | false => exact iteF ⟨E0, En, H1, ρ, t2, d, t', R1, ev2, fun H2 H2' v R2 g2 r2 => q _ _ _ R2 (g1.trans g2) r2⟩
theorem ed_and {f g : Env → M T D} (h : ED k C X a f) (h2 : ED k C X (.BoolOp .And (b :: rest) pos) g) : ED k C X (.BoolOp .And (a :: b :: rest) pos) (fun ρ => bnd (f ρ) fun x => bnd (lft (asB x)) fun x => match x with | true => g ρ | false => ret (.bl false)) :=
  pe_imp (pe_and h h2) fun σ H Q ⟨E0, En, H0, ρ, t, d, t', R, ev, q⟩ => by
  obtain ⟨x, t1, e1, ev1⟩ := bnd_some ev
  obtain ⟨y, t2, f2, ev2⟩ := bnd_some ev1
  obtain ⟨e2, rfl⟩ := lft_some f2
  have hx := asB_some e2
  subst hx
  refine ⟨E0, En, H0, ρ, t, _, t2, R, e1, fun H1 H1' v R1 g1 r1 => ?_⟩
  cases r1
  refine ⟨y, rfl, ?_⟩
  cases y with
  | false =>
    obtain ⟨rfl, rfl⟩ := ret_some ev2
    exact iteF (q _ _ _ R1 g1 (.bl _))
  | true => exact iteT ⟨E0, En, H1, ρ, t2, d, t', R1, ev2, fun H2 H2' v R2 g2 r2 => q _ _ _ R2 (g1.trans g2) r2⟩
theorem ed_not {f : Env → M T D} (h : ED k C X a f) : ED k C X (.UnaryOp .Not a pos) (fun ρ => bnd (f ρ) fun x => bnd (lft (asB x)) fun x => ret (.bl (!x))) := pe_imp (pe_not h) fun σ H Q ⟨E0, En, H0, ρ, t, d, t', R, ev, q⟩ => by
  obtain ⟨x, t1, e1, ev1⟩ := bnd_some ev
  obtain ⟨y, t2, f2, ev2⟩ := bnd_some ev1
  obtain ⟨rfl, rfl⟩ := ret_some ev2
  obtain ⟨e2, rfl⟩ := lft_some f2
  have hx := asB_some e2
  subst hx
  refine ⟨E0, En, H0, ρ, t, _, _, R, e1, fun H1 H1' v R1 g1 r1 => ?_⟩
  cases r1
  exact ⟨y, rfl, q _ _ _ R1 g1 (.bl _)⟩
theorem ed_if {f : Env → M T Bool} (hc : ET k C X c f) (ha : ED k C X a fa) (hb : ED k C X b fb) : ED k C X (.IfExp c a b pos) (fun ρ => bnd (f ρ) fun x => match x with | true => fa ρ | false => fb ρ) :=
  pe_imp (pe_ifExp hc ha hb) fun σ H Q ⟨E0, En, H0, ρ, t, d, t', R, ev, q⟩ => by
  obtain ⟨x, t1, e1, ev1⟩ := bnd_some ev
  refine ⟨E0, En, H0, ρ, t, x, t1, R, e1, fun H1 H1' R1 g1 => ?_⟩
  cases x with
  | true => exact iteT ⟨E0, En, H1, ρ, t1, d, t', R1, ev1, fun H2 H2' v R2 g2 r2 => q _ _ _ R2 (g1.trans g2) r2⟩
  | false => exact iteF ⟨E0, En, H1, ρ, t1, d, t', R1, ev1, fun H2 H2' v R2 g2 r2 => q _ _ _ R2 (g1.trans g2) r2⟩

/-! ### built-ins of one argument -/
theorem ea_one (h : EB k C X a fa) (hs : starEach [a] X.env = (false, eval a X.env) :: starEach [] X.env := by rfl) : PA X [a] (tA1 k C fa) := pa_imp (pa_cons h pa_nil hs) fun σ H Q ⟨E0, En, H0, ρ, t, d, t', R, ev, q⟩ =>
  ⟨E0, En, H0, ρ, t, d, t', R, ev, fun H1 H1' v R1 g1 r1 => q _ _ _ R1 g1 r1⟩
def Call1 (k : Kx) (C : Cell T) (r : List V → Hp → VK → Prop) (g : D → Option D) : Prop := ∀ (E0 En H0 H : Hp) (σ : L2.St) (ρ : Env) (t : T) (x d : D) (v : V) (Q : VK), RS k C E0 En H0 H σ ρ t → Rd1 k C H0 H x v → g x = some d → (∀ w, Rp k H0 d w → Q w H) → r [v] H Q
def CallL (k : Kx) (C : Cell T) (r : List V → Hp → VK → Prop) (g : D → Option (List D)) : Prop := ∀ (E0 En H0 H : Hp) (σ : L2.St) (ρ : Env) (t : T) (x : D) (ds : List D) (v : V) (Q : VK), RS k C E0 En H0 H σ ρ t → Rd1 k C H0 H x v → g x = some ds → (∀ p vs, H p = none → RpA k H0 ds vs → Q (.ref p) (upd H p (.lst vs))) → r [v] H Q
def CallK (k : Kx) (C : Cell T) (r : List V → Hp → VK → Prop) (g : D → Option (List (Str × D))) : Prop := ∀ (E0 En H0 H : Hp) (σ : L2.St) (ρ : Env) (t : T) (x : D) (ds : List (Str × D)) (v : V) (Q : VK), RS k C E0 En H0 H σ ρ t → Rd1 k C H0 H x v → g x = some ds → (∀ p vs, H p = none → RpK k H0 ds vs → Q (.ref p) (upd H p (.dK vs))) → r [v] H Q
variable {x : Str} {p : Pos} {r : List V → Hp → VK → Prop}
theorem c1_pf {g : D → Option D} {Q : VK} (ok : Call1 k C r g) (h : tD k C (fun ρ => bnd (fa ρ) fun x => lft (g x)) σ H Q) : tCB r (tA1 k C fa) σ H Q := by
  obtain ⟨E0, En, H0, ρ, t, d, t', R, ev, q⟩ := h
  obtain ⟨x, t1, e1, ev1⟩ := bnd_some ev
  obtain ⟨e2, rfl⟩ := lft_some ev1
  exact ⟨E0, En, H0, ρ, t, x, t', R, e1, fun H1 H1' v R1 g1 r1 => ok _ _ _ _ _ _ _ _ _ _ _ R1 r1 e2 fun w hw => q _ _ _ R1 g1 hw⟩
theorem cL_pf {g : D → Option (List D)} {Q : VK} (ok : CallL k C r g) (h : tL k C (fun ρ => bnd (fa ρ) fun x => lft (g x)) σ H Q) : tCB r (tA1 k C fa) σ H Q := by
  obtain ⟨E0, En, H0, ρ, t, d, t', R, ev, q⟩ := h
  obtain ⟨x, t1, e1, ev1⟩ := bnd_some ev
  obtain ⟨e2, rfl⟩ := lft_some ev1
  refine ⟨E0, En, H0, ρ, t, x, t', R, e1, fun H1 H1' v R1 g1 r1 => ok _ _ _ _ _ _ _ _ _ _ _ R1 r1 e2 fun p vs hp hv => ?_⟩
  obtain ⟨R2, g2⟩ := R1.newO (.lst vs) hp
  exact q _ _ _ _ R2 (g1.trans g2) (g1.trk p hp) (R1.fresh hp).2.1 upd_same hv
theorem cK_pf {g : D → Option (List (Str × D))} {Q : VK} (ok : CallK k C r g) (h : tK k C (fun ρ => bnd (fa ρ) fun x => lft (g x)) σ H Q) : tCB r (tA1 k C fa) σ H Q := by
  obtain ⟨E0, En, H0, ρ, t, d, t', R, ev, q⟩ := h
  obtain ⟨x, t1, e1, ev1⟩ := bnd_some ev
  obtain ⟨e2, rfl⟩ := lft_some ev1
  refine ⟨E0, En, H0, ρ, t, x, t', R, e1, fun H1 H1' v R1 g1 r1 => ok _ _ _ _ _ _ _ _ _ _ _ R1 r1 e2 fun p vs hp hv => ?_⟩
  obtain ⟨R2, g2⟩ := R1.newO (.dK vs) hp
  exact q _ _ _ _ R2 (g1.trans g2) (g1.trk p hp) (R1.fresh hp).2.1 upd_same hv
theorem ed_b1 {id : String} {g : D → Option D} (hc : CallR X (.builtin id) r) (ok : Call1 k C r g) (hm : X.mg x = none) (hv : bootBuiltins x = some (.builtin id)) (ha : EB k C X a fa) (hg : Gl X x := by rfl) (hn : x ≠ "__name__" := by decide)
    (hdb : (x == ("__debug__" : Str)) = false := by decide) (he : starEach [a] X.env = (false, eval a X.env) :: starEach [] X.env := by rfl) : ED k C X (.Call (.Name x p) [a] [] pos) (fun ρ => bnd (fa ρ) fun x => lft (g x)) :=
  pe_imp (pe_callB hc hg hm hv (ea_one ha he) hn hdb he (by first | rfl | simp [starEach, backTo])) fun _ _ _ h => c1_pf ok h
theorem ed_t1 {id : String} {g : D → Option D} (hc : CallR X (.type id) r) (ok : Call1 k C r g) (hm : X.mg x = none) (hv : bootBuiltins x = some (.type id)) (ha : EB k C X a fa) (hg : Gl X x := by rfl) (hn : x ≠ "__name__" := by decide)
    (hdb : (x == ("__debug__" : Str)) = false := by decide) (he : starEach [a] X.env = (false, eval a X.env) :: starEach [] X.env := by rfl) : ED k C X (.Call (.Name x p) [a] [] pos) (fun ρ => bnd (fa ρ) fun x => lft (g x)) :=
  pe_imp (pe_callTy hc hg hm hv (ea_one ha he) hn hdb he (by first | rfl | simp [starEach, backTo])) fun _ _ _ h => c1_pf ok h
theorem el_b1 {id : String} {g : D → Option (List D)} (hc : CallR X (.builtin id) r) (ok : CallL k C r g) (hm : X.mg x = none) (hv : bootBuiltins x = some (.builtin id)) (ha : EB k C X a fa) (hg : Gl X x := by rfl) (hn : x ≠ "__name__" := by decide)
    (hdb : (x == ("__debug__" : Str)) = false := by decide) (he : starEach [a] X.env = (false, eval a X.env) :: starEach [] X.env := by rfl) : EL k C X (.Call (.Name x p) [a] [] pos) (fun ρ => bnd (fa ρ) fun x => lft (g x)) :=
  pe_imp (pe_callB hc hg hm hv (ea_one ha he) hn hdb he (by first | rfl | simp [starEach, backTo])) fun _ _ _ h => cL_pf ok h
theorem el_t1 {id : String} {g : D → Option (List D)} (hc : CallR X (.type id) r) (ok : CallL k C r g) (hm : X.mg x = none) (hv : bootBuiltins x = some (.type id)) (ha : EB k C X a fa) (hg : Gl X x := by rfl) (hn : x ≠ "__name__" := by decide)
    (hdb : (x == ("__debug__" : Str)) = false := by decide) (he : starEach [a] X.env = (false, eval a X.env) :: starEach [] X.env := by rfl) : EL k C X (.Call (.Name x p) [a] [] pos) (fun ρ => bnd (fa ρ) fun x => lft (g x)) :=
  pe_imp (pe_callTy hc hg hm hv (ea_one ha he) hn hdb he (by first | rfl | simp [starEach, backTo])) fun _ _ _ h => cL_pf ok h
theorem ek_t1 {id : String} {g : D → Option (List (Str × D))} (hc : CallR X (.type id) r) (ok : CallK k C r g) (hm : X.mg x = none) (hv : bootBuiltins x = some (.type id)) (ha : EB k C X a fa) (hg : Gl X x := by rfl) (hn : x ≠ "__name__" := by decide)
    (hdb : (x == ("__debug__" : Str)) = false := by decide) (he : starEach [a] X.env = (false, eval a X.env) :: starEach [] X.env := by rfl) : EK k C X (.Call (.Name x p) [a] [] pos) (fun ρ => bnd (fa ρ) fun x => lft (g x)) :=
  pe_imp (pe_callTy hc hg hm hv (ea_one ha he) hn hdb he (by first | rfl | simp [starEach, backTo])) fun _ _ _ h => cK_pf ok h
end
end MM
/-! M4 -/
namespace MM
open PySem PySem.Spec PyProof.Rows L2

/-! ## slots that change -/
section
variable {T : Type} {k : Kx} {C : Cell T} {E0 En H0 H H0' H' : Hp} {σ : L2.St} {ρ : Env} {t t' : T} {d : D} {v : V} {ds : List D} {vs : List V} {ks : List (Str × D)} {kvs : List (Key × V)} {l : Addr}
/-- what may come to a slot -/
def PutOk (k : Kx) (En H0 H : Hp) (σ : L2.St) (ρ : Env) (v : V) : SV → Prop
  | .val d => Rp k H0 d v
  | .ol ds => ∃ l vs, v = .ref l ∧ En l = none ∧ H0 l = none ∧ H l = some (.lst vs) ∧ RpA k H0 ds vs ∧ ∀ j, ¬ Owns σ ρ j l
  | .od ks => ∃ l kvs, v = .ref l ∧ En l = none ∧ H0 l = none ∧ H l = some (.dK kvs) ∧ RpK k H0 ks kvs ∧ ∀ j, ¬ Owns σ ρ j l
theorem owns_set {i j : Nat} {v : V} {s : SV} {l : Addr} (h : Owns (σ.set i (some v)) (ρ.set i (some s)) j l) : (j = i ∧ v = .ref l ∧ ((∃ ds, s = .ol ds) ∨ ∃ ks, s = .od ks)) ∨ (j ≠ i ∧ Owns σ ρ j l) := by
  obtain ⟨h1, h2⟩ := h
  by_cases e : i = j
  · subst e
    left
    rw [List.getElem?_set_self' ] at h1
    have h1' : v = .ref l := by
      cases q : σ[i]? with
      | none => rw [q] at h1; cases h1
      | some y => rw [q] at h1; exact Option.some.inj (Option.some.inj h1)
    refine ⟨rfl, h1', ?_⟩
    rw [List.getElem?_set_self'] at h2
    cases q : ρ[i]? with
    | none => rw [q] at h2; rcases h2 with ⟨_, h2⟩ | ⟨_, h2⟩ <;> cases h2
    | some y =>
      rw [q] at h2
      rcases h2 with ⟨ds, h2⟩ | ⟨ds, h2⟩
      · exact .inl ⟨ds, Option.some.inj (Option.some.inj h2)⟩
      · exact .inr ⟨ds, Option.some.inj (Option.some.inj h2)⟩
  · right
    rw [List.getElem?_set_ne e] at h1 h2
    exact ⟨fun z => e z.symm, h1, h2⟩
theorem RS.put (R : RS k C E0 En H0 H σ ρ t) (i : Nat) {s : SV} (h : PutOk k En H0 H σ ρ v s) : RS k C E0 En H0 H (σ.set i (some v)) (ρ.set i (some s)) t where
  go := R.go
  sub := R.sub
  rep := R.rep
  mt := R.mt
  len := by rw [List.length_set, List.length_set]; exact R.len
  slot := fun j x sv h1 h2 => by
    by_cases e : i = j
    · subst e
      rw [List.getElem?_set_self'] at h1 h2
      cases q : σ[i]? with
      | none => rw [q] at h1; cases h1
      | some y =>
        cases q2 : ρ[i]? with
        | none => rw [q2] at h2; cases h2
        | some y2 =>
          rw [q] at h1
          rw [q2] at h2
          cases h1
          cases h2
          cases s with
          | val d => exact ⟨v, rfl, h⟩
          | ol ds => obtain ⟨l, vs, rfl, a, b, c, r, _⟩ := h; exact ⟨l, vs, rfl, a, b, c, r⟩
          | od ds => obtain ⟨l, vs, rfl, a, b, c, r, _⟩ := h; exact ⟨l, vs, rfl, a, b, c, r⟩
    · rw [List.getElem?_set_ne e] at h1 h2
      exact R.slot j x sv h1 h2
  own := fun a b l ha hb => by
    have no : ∀ j, v = .ref l → ((∃ ds, s = .ol ds) ∨ ∃ ks, s = .od ks) → ¬ Owns σ ρ j l := fun j ev es => by
      rcases es with ⟨ds, rfl⟩ | ⟨ds, rfl⟩
      · obtain ⟨l', vs, e, _, _, _, _, n⟩ := h
        rw [ev] at e; cases e; exact n j
      · obtain ⟨l', vs, e, _, _, _, _, n⟩ := h
        rw [ev] at e; cases e; exact n j
    rcases owns_set ha with ⟨e1, ev, es⟩ | ⟨n1, o1⟩
    · rcases owns_set hb with ⟨e2, _, _⟩ | ⟨n2, o2⟩
      · rw [e1, e2]
      · exact absurd o2 (no b ev es)
    · rcases owns_set hb with ⟨e2, ev, es⟩ | ⟨n2, o2⟩
      · exact absurd o1 (no a ev es)
      · exact R.own a b l o1 o2
  tb := R.tb
theorem own_lt (R : RS k C E0 En H0 H σ ρ t) {j : Nat} {p : Addr} (hp : H p = none) : ¬ Owns σ ρ j p := fun z => by
  obtain ⟨_, _, u, hu⟩ := R.ownAt z
  rw [hp] at hu; cases hu
/-- the slot's own list becomes another -/
theorem RS.app (R : RS k C E0 En H0 H σ ρ t) {i : Nat} {ds : List D} (h : ρ[i]? = some (some (.ol ds))) : ∃ l vs, σ[i]? = some (some (.ref l)) ∧ H l = some (.lst vs) ∧ RpA k H0 ds vs ∧
    ∀ ds' vs', RpA k H0 ds' vs' → RS k C E0 En H0 (upd H l (.lst vs')) σ (ρ.set i (some (.ol ds'))) t := by
  obtain ⟨x, h1, l, vs, rfl, a, b, c, r⟩ := slot_at R h
  have nm : ¬ C.mu l := fun z => (R.mt l z).1 a
  refine ⟨l, vs, h1, c, r, fun ds' vs' r' => ⟨⟨R.go.base, fun y o e n => ?_, R.go.nof, fun y z => ?_, fun y ps e => ?_⟩, ?_, ?_, R.mt, by rw [List.length_set]; exact R.len, fun j x sv g1 g2 => ?_, fun p q m ha hb => ?_, fun y ps e => ?_⟩⟩
  · rw [upd_ne (ne_of_none e a)]
    exact R.go.act y o e n
  · by_cases e : y = l
    · rw [e]; exact a
    · rw [upd_ne e] at z; exact R.go.trk y z
  · by_cases q : y = l
    · rw [q, upd_same] at e; cases e
    · rw [upd_ne q] at e; exact R.go.ntb y ps e
  · exact R.sub.mu b
  · refine C.stay t H _ R.rep fun y o e n => ?_
    rw [upd_ne (fun z => ?_)]
    · exact e
    · rw [z, c] at e
      cases e
      rcases n with n | n
      · rw [z] at n; exact nm n
      · exact n trivial
  · by_cases e : i = j
    · subst e
      rw [List.getElem?_set_self'] at g2
      rw [h] at g2
      cases g2
      rw [h1] at g1
      cases g1
      exact ⟨l, vs', rfl, a, b, upd_same, r'⟩
    · rw [List.getElem?_set_ne e] at g2
      have q := R.slot j x sv g1 g2
      have nl : ∀ l', x = some (.ref l') → ((∃ ds, sv = some (.ol ds)) ∨ ∃ ks, sv = some (.od ks)) → l' ≠ l := fun l' ex es z => by
        refine e (R.own i j l ⟨h1, .inl ⟨ds, h⟩⟩ ⟨by rw [g1, ex, z], ?_⟩)
        rcases es with ⟨ds, es⟩ | ⟨ds, es⟩
        · exact .inl ⟨ds, by rw [g2, es]⟩
        · exact .inr ⟨ds, by rw [g2, es]⟩
      cases sv with
      | none => trivial
      | some sv =>
        cases sv with
        | val d => exact q
        | ol ds =>
          obtain ⟨l', vs, e, a, b, c, r⟩ := q
          exact ⟨l', vs, e, a, b, by rw [upd_ne (nl l' e (.inl ⟨ds, rfl⟩))]; exact c, r⟩
        | od ds =>
          obtain ⟨l', vs, e, a, b, c, r⟩ := q
          exact ⟨l', vs, e, a, b, by rw [upd_ne (nl l' e (.inr ⟨ds, rfl⟩))]; exact c, r⟩
  · have back : ∀ {j m}, Owns σ (ρ.set i (some (.ol ds'))) j m → Owns σ ρ j m := fun {j m} ⟨o1, o2⟩ => by
      refine ⟨o1, ?_⟩
      by_cases e : i = j
      · subst e; exact .inl ⟨ds, h⟩
      · rw [List.getElem?_set_ne e] at o2; exact o2
    exact R.own p q m (back ha) (back hb)
  · by_cases q : y = l
    · rw [q, upd_same] at e; cases e
    · rw [upd_ne q] at e; exact R.tb y ps e
/-- .. its own dict -/
theorem RS.dpt (R : RS k C E0 En H0 H σ ρ t) {i : Nat} {ks : List (Str × D)} (h : ρ[i]? = some (some (.od ks))) : ∃ l kvs, σ[i]? = some (some (.ref l)) ∧ H l = some (.dK kvs) ∧ RpK k H0 ks kvs ∧
    ∀ ks' kvs', RpK k H0 ks' kvs' → RS k C E0 En H0 (upd H l (.dK kvs')) σ (ρ.set i (some (.od ks'))) t := by
  obtain ⟨x, h1, l, vs, rfl, a, b, c, r⟩ := slot_at R h
  have nm : ¬ C.mu l := fun z => (R.mt l z).1 a
  refine ⟨l, vs, h1, c, r, fun ks' kvs' r' => ⟨⟨R.go.base, fun y o e n => ?_, R.go.nof, fun y z => ?_, fun y ps e => ?_⟩, ?_, ?_, R.mt, by rw [List.length_set]; exact R.len, fun j x sv g1 g2 => ?_, fun p q m ha hb => ?_, fun y ps e => ?_⟩⟩
  · rw [upd_ne (ne_of_none e a)]
    exact R.go.act y o e n
  · by_cases e : y = l
    · rw [e]; exact a
    · rw [upd_ne e] at z; exact R.go.trk y z
  · by_cases q : y = l
    · rw [q, upd_same] at e; cases e
    · rw [upd_ne q] at e; exact R.go.ntb y ps e
  · exact R.sub.mu b
  · refine C.stay t H _ R.rep fun y o e n => ?_
    rw [upd_ne (fun z => ?_)]
    · exact e
    · rw [z, c] at e
      cases e
      rcases n with n | n
      · rw [z] at n; exact nm n
      · exact n trivial
  · by_cases e : i = j
    · subst e
      rw [List.getElem?_set_self'] at g2
      rw [h] at g2
      cases g2
      rw [h1] at g1
      cases g1
      exact ⟨l, kvs', rfl, a, b, upd_same, r'⟩
    · rw [List.getElem?_set_ne e] at g2
      have q := R.slot j x sv g1 g2
      have nl : ∀ l', x = some (.ref l') → ((∃ ds, sv = some (.ol ds)) ∨ ∃ ks, sv = some (.od ks)) → l' ≠ l := fun l' ex es z => by
        refine e (R.own i j l ⟨h1, .inr ⟨ks, h⟩⟩ ⟨by rw [g1, ex, z], ?_⟩)
        rcases es with ⟨ds, es⟩ | ⟨ds, es⟩
        · exact .inl ⟨ds, by rw [g2, es]⟩
        · exact .inr ⟨ds, by rw [g2, es]⟩
      cases sv with
      | none => trivial
      | some sv =>
        cases sv with
        | val d => exact q
        | ol ds =>
          obtain ⟨l', vs, e, a, b, c, r⟩ := q
          exact ⟨l', vs, e, a, b, by rw [upd_ne (nl l' e (.inl ⟨ds, rfl⟩))]; exact c, r⟩
        | od ds =>
          obtain ⟨l', vs, e, a, b, c, r⟩ := q
          exact ⟨l', vs, e, a, b, by rw [upd_ne (nl l' e (.inr ⟨ds, rfl⟩))]; exact c, r⟩
  · have back : ∀ {j m}, Owns σ (ρ.set i (some (.od ks'))) j m → Owns σ ρ j m := fun {j m} ⟨o1, o2⟩ => by
      refine ⟨o1, ?_⟩
      by_cases e : i = j
      · subst e; exact .inr ⟨ks, h⟩
      · rw [List.getElem?_set_ne e] at o2; exact o2
    exact R.own p q m (back ha) (back hb)
  · by_cases q : y = l
    · rw [q, upd_same] at e; cases e
    · rw [upd_ne q] at e; exact R.tb y ps e
end

/-! ## statements -/
inductive Out where
  | nx (ρ : Env) | rt (d : D) | bk (ρ : Env) | ct (ρ : Env)
section
variable {T : Type} (k : Kx) (C : Cell T)
def Fin (E0 En H0 : Hp) (N : Ends) (t' : T) : Out → Prop
  | .nx ρ' => ∀ H0' H' σ', RS k C E0 En H0' H' σ' ρ' t' → Ex H0 H0' → N.nx σ' H'
  | .bk ρ' => ∀ H0' H' σ', RS k C E0 En H0' H' σ' ρ' t' → Ex H0 H0' → N.bk σ' H'
  | .ct ρ' => ∀ H0' H' σ', RS k C E0 En H0' H' σ' ρ' t' → Ex H0 H0' → N.ct σ' H'
  | .rt d => ∀ H0' H' v, Go C E0 En H0' H' → Ex H0' H' → C.rep t' H' → Rp k H0' d v → N.rt v H'
def tS (f : Env → M T Out) : TS := fun N σ H => ∃ E0 En H0 ρ t o t', RS k C E0 En H0 H σ ρ t ∧ f ρ t = some (o, t') ∧ Fin k C E0 En H0 N t' o
abbrev SS (X : Cx) (st : Stmt) (f : Env → M T Out) : Prop := PS X st (tS k C f)
abbrev SB (X : Cx) (st : List Stmt) (f : Env → M T Out) : Prop := PSs X st (tS k C f)
end
def seqS {T : Type} (f g : Env → M T Out) : Env → M T Out := fun ρ => bnd (f ρ) fun o => match o with
  | .nx ρ' => g ρ'
  | .rt d => ret (.rt d)
  | .bk ρ' => ret (.bk ρ')
  | .ct ρ' => ret (.ct ρ')
section
variable {T : Type} {k : Kx} {C : Cell T} {E0 En H0 H H0' H' : Hp} {σ : L2.St} {ρ : Env} {t t' : T} {d : D} {v : V} {ds : List D} {vs : List V} {ks : List (Str × D)} {kvs : List (Key × V)} {l : Addr}
variable {X : Cx} {a b c e : Expr} {es : List Expr} {pos : Pos} {fa fb fc : Env → M T D} {st : Stmt} {sts : List Stmt} {f g : Env → M T Out}
theorem sb_nil : SB k C X [] (fun ρ => ret (.nx ρ)) := pss_imp pss_nil fun N σ H ⟨E0, En, H0, ρ, t, o, t', R, ev, q⟩ => by
  obtain ⟨rfl, rfl⟩ := ret_some ev
  exact q _ _ _ R (Same.refl _)
theorem Fin.mono {N : Ends} {o : Out} {H1 : Hp} (q : Fin k C E0 En H0 N t' o) (e : Ex H0 H1) : Fin k C E0 En H1 N t' o := by
  cases o with
  | rt d => exact q
  | nx ρ => exact fun a b c R z => q a b c R (e.trans z)
  | bk ρ => exact fun a b c R z => q a b c R (e.trans z)
  | ct ρ => exact fun a b c R z => q a b c R (e.trans z)
theorem sb_cons (h : SS k C X st f) (h2 : SB k C X sts g) : SB k C X (st :: sts) (seqS f g) := pss_imp (pss_cons h h2) fun N σ H ⟨E0, En, H0, ρ, t, o, t', R, ev, q⟩ => by
  obtain ⟨o1, t1, e1, e2⟩ := bnd_some ev
  refine ⟨E0, En, H0, ρ, t, o1, t1, R, e1, ?_⟩
  cases o1 with
  | nx ρ1 => exact fun H0' H' σ' R' ex => ⟨E0, En, H0', ρ1, t1, o, t', R', e2, q.mono ex⟩
  | rt d => obtain ⟨rfl, rfl⟩ := ret_some e2; exact q
  | bk ρ1 => obtain ⟨rfl, rfl⟩ := ret_some e2; exact q
  | ct ρ1 => obtain ⟨rfl, rfl⟩ := ret_some e2; exact q
theorem sb_one (h : SS k C X st f) : SB k C X [st] f := pss_imp (pss_one h) fun _ _ _ h => h
/-- x = e -/
theorem ss_set (i : Nat) {x : Str} {p : Pos} (hN : X.N.Nodup) (ha : ED k C X a fa) (hi : X.N[i]? = some x := by rfl) (hx : Loc X.env.scope x := by first | exact Or.inl rfl | exact Or.inr rfl) (hs : swapsWith a (some (.Name x p)) pos.line X.env = pure false := by rfl) (hf : X.fn x = true ∨ X.env.scope.names.lookup x = some .local := by first | exact .inl rfl | exact .inr rfl | assumption) :
    SS k C X (.Assign [.Name x p] a pos) (fun ρ => bnd (fa ρ) fun d => ret (.nx (ρ.set i (some (.val d))))) := ps_imp (ps_set hN hi hx ha hs hf) fun N σ H ⟨E0, En, H0, ρ, t, o, t', R, ev, q⟩ => by
  obtain ⟨d, t1, e1, e2⟩ := bnd_some ev
  obtain ⟨rfl, rfl⟩ := ret_some e2
  exact ⟨E0, En, H0, ρ, t, d, t', R, e1, fun H1 H1' v R1 g1 r1 => q _ _ _ (R1.put i r1) g1.base⟩
/-- x = a list, a dict just made, to be changed -/
theorem ss_setL (i : Nat) {x : Str} {p : Pos} {fl : Env → M T (List D)} (hN : X.N.Nodup) (ha : EL k C X a fl) (hi : X.N[i]? = some x := by rfl) (hx : Loc X.env.scope x := by first | exact Or.inl rfl | exact Or.inr rfl) (hs : swapsWith a (some (.Name x p)) pos.line X.env = pure false := by rfl) (hf : X.fn x = true ∨ X.env.scope.names.lookup x = some .local := by first | exact .inl rfl | exact .inr rfl | assumption) :
    SS k C X (.Assign [.Name x p] a pos) (fun ρ => bnd (fl ρ) fun d => ret (.nx (ρ.set i (some (.ol d))))) := ps_imp (ps_set hN hi hx ha hs hf) fun N σ H ⟨E0, En, H0, ρ, t, o, t', R, ev, q⟩ => by
  obtain ⟨d, t1, e1, e2⟩ := bnd_some ev
  obtain ⟨rfl, rfl⟩ := ret_some e2
  exact ⟨E0, En, H0, ρ, t, d, t', R, e1, fun H1 H1' p vs R1 g1 np n0 hp r1 => q _ _ _ (R1.put i ⟨p, vs, rfl, R.go.trk p np, n0, hp, r1, fun j => own_lt R np⟩) g1.base⟩
theorem ss_setK (i : Nat) {x : Str} {p : Pos} {fl : Env → M T (List (Str × D))} (hN : X.N.Nodup) (ha : EK k C X a fl) (hi : X.N[i]? = some x := by rfl) (hx : Loc X.env.scope x := by first | exact Or.inl rfl | exact Or.inr rfl) (hs : swapsWith a (some (.Name x p)) pos.line X.env = pure false := by rfl) (hf : X.fn x = true ∨ X.env.scope.names.lookup x = some .local := by first | exact .inl rfl | exact .inr rfl | assumption) :
    SS k C X (.Assign [.Name x p] a pos) (fun ρ => bnd (fl ρ) fun d => ret (.nx (ρ.set i (some (.od d))))) := ps_imp (ps_set hN hi hx ha hs hf) fun N σ H ⟨E0, En, H0, ρ, t, o, t', R, ev, q⟩ => by
  obtain ⟨d, t1, e1, e2⟩ := bnd_some ev
  obtain ⟨rfl, rfl⟩ := ret_some e2
  exact ⟨E0, En, H0, ρ, t, d, t', R, e1, fun H1 H1' p vs R1 g1 np n0 hp r1 => q _ _ _ (R1.put i ⟨p, vs, rfl, R.go.trk p np, n0, hp, r1, fun j => own_lt R np⟩) g1.base⟩
/-- an expression, its value dropped -/
theorem ss_expr (ha : ED k C X a fa) (hs : swapsWith a none pos.line X.env = pure false := by rfl) : SS k C X (.Expr a pos) (fun ρ => bnd (fa ρ) fun _ => ret (.nx ρ)) := ps_imp (ps_expr ha hs) fun N σ H ⟨E0, En, H0, ρ, t, o, t', R, ev, q⟩ => by
  obtain ⟨d, t1, e1, e2⟩ := bnd_some ev
  obtain ⟨rfl, rfl⟩ := ret_some e2
  exact ⟨E0, En, H0, ρ, t, d, t', R, e1, fun H1 H1' v R1 g1 r1 => q _ _ _ R1 g1.base⟩
theorem ss_ret (ha : ED k C X a fa) : SS k C X (.Return (some a) pos) (fun ρ => bnd (fa ρ) fun d => ret (.rt d)) := ps_imp (ps_ret ha) fun N σ H ⟨E0, En, H0, ρ, t, o, t', R, ev, q⟩ => by
  obtain ⟨d, t1, e1, e2⟩ := bnd_some ev
  obtain ⟨rfl, rfl⟩ := ret_some e2
  exact ⟨E0, En, H0, ρ, t, d, t', R, e1, fun H1 H1' v R1 g1 r1 => q _ _ _ R1.go R1.sub R1.rep r1⟩
/-- return x, x a slot's own list or dict -/
theorem ss_retO (i : Nat) {x : Str} {p : Pos} (hN : X.N[i]? = some x := by rfl) (hv : Vis X.env.scope x := by first | exact Or.inl rfl | exact Or.inr (Or.inl rfl) | exact Or.inr (Or.inr rfl)) (hd : (x == ("__debug__" : Str)) = false := by decide)
    (hcd : (x == ("__classdict__" : Str)) = false := by decide) : SS k C X (.Return (some (.Name x p)) pos) (fun ρ => bnd (lft (vB i ρ)) fun d => ret (.rt d)) := ps_imp (ps_ret (pe_var hN hv hd hcd)) fun N σ H ⟨E0, En, H0, ρ, t, o, t', R, ev, q⟩ => by
  obtain ⟨d, t1, e1, e2⟩ := bnd_some ev
  obtain ⟨e3, rfl⟩ := lft_some e1
  obtain ⟨rfl, rfl⟩ := ret_some e2
  unfold vB at e3
  split at e3
  · next e =>
    cases e3
    obtain ⟨x, h1, v, rfl, r⟩ := slot_at R e
    exact ⟨v, h1, q _ _ _ R.go R.sub R.rep r⟩
  · next e =>
    cases e3
    obtain ⟨x, h1, l, vs, rfl, a, b, c, r⟩ := slot_at R e
    refine ⟨_, h1, q (upd H0 l (.lst vs)) H _ ⟨R.go.base.trans (ex_new b), R.go.act, fun y z w => ?_, R.go.trk, R.go.ntb⟩ (R.sub.frz c) R.rep (.lst upd_same (r.ex (ex_new b)))⟩
    rw [upd_ne (fun u => z (by rw [u]; exact a))]
    exact R.go.nof y z w
  · next e =>
    cases e3
    obtain ⟨x, h1, l, vs, rfl, a, b, c, r⟩ := slot_at R e
    refine ⟨_, h1, q (upd H0 l (.dK vs)) H _ ⟨R.go.base.trans (ex_new b), R.go.act, fun y z w => ?_, R.go.trk, R.go.ntb⟩ (R.sub.frz c) R.rep (.dct upd_same (r.ex (ex_new b)))⟩
    rw [upd_ne (fun u => z (by rw [u]; exact a))]
    exact R.go.nof y z w
  · cases e3
theorem ss_if {fc : Env → M T Bool} {as bs : List Stmt} (hc : ET k C X c fc) (ha : SB k C X as f) (hb : SB k C X bs g) : SS k C X (.If c as bs pos) (fun ρ => bnd (fc ρ) fun x => match x with | true => f ρ | false => g ρ) :=
  ps_imp (ps_if hc ha hb) fun N σ H ⟨E0, En, H0, ρ, t, o, t', R, ev, q⟩ => by
  obtain ⟨x, t1, e1, e2⟩ := bnd_some ev
  refine ⟨E0, En, H0, ρ, t, x, t1, R, e1, fun H1 H1' R1 g1 => ?_⟩
  cases x with
  | true => exact iteT ⟨E0, En, H1, ρ, t1, o, t', R1, e2, q.mono g1.base⟩
  | false => exact iteF ⟨E0, En, H1, ρ, t1, o, t', R1, e2, q.mono g1.base⟩
/-- never reached -/
theorem ss_never : SS k C X st (fun _ _ => none) := ps_imp ps_never fun N σ H ⟨E0, En, H0, ρ, t, o, t', R, ev, q⟩ => by cases ev
/-- xs.append(e), xs the slot's own list -/
def appE (i : Nat) (d : D) (ρ : Env) : Option Out := match ρ[i]? with
  | some (some (.ol ds)) => if ds.length ≤ 100000 then some (.nx (ρ.set i (some (.ol (ds ++ [d]))))) else none
  | _ => none
theorem ss_app (i : Nat) {x : Str} {p apos cpos : Pos} (ha : ED k C X a fa) (hN : X.N[i]? = some x := by rfl) (hv : Vis X.env.scope x := by first | exact Or.inl rfl | exact Or.inr (Or.inl rfl) | exact Or.inr (Or.inr rfl)) (hd : (x == ("__debug__" : Str)) = false := by decide)
    (hcd : (x == ("__classdict__" : Str)) = false := by decide)
    (hbase : attributeBase (.Name x p) "append" X.env (eval (.Name x p) X.env) = eval (.Name x p) X.env := by rfl)
    (hfew : ((backTo cpos (starEach [a] X.env)).all (fun x => !x.1) && (backToKw cpos (keywordEach [] X.env)).all (fun x => x.1.isSome)
      && decide (([a] : List Expr).length + ([] : List Keyword).length + (if ([] : List Keyword).isEmpty then 0 else 1) < 30)) = true := by rfl)
    (hline : (apos.endLine == cpos.line) = true := by rfl) (hst : starEach [a] X.env = (false, eval a X.env) :: starEach [] X.env := by rfl) (hs : swapsWith (.Call (.Attribute (.Name x p) "append" apos) [a] [] cpos) none pos.line X.env = pure false := by rfl) :
    SS k C X (.Expr (.Call (.Attribute (.Name x p) "append" apos) [a] [] cpos) pos) (fun ρ => bnd (fa ρ) fun d => lft (appE i d ρ)) :=
  ps_imp (ps_expr (pe_bm PySem.F.plainAttrs_list PySem.F.slot_list_append PySem.F.type_list_append mt_append (pe_var hN hv hd hcd) (pa_cons ha pa_nil hst) hbase hfew hline hst (by first | rfl | simp [starEach, backTo])) hs) fun N σ H ⟨E0, En, H0, ρ, t, o, t', R, ev, q⟩ => by
  obtain ⟨d, t1, e1, e2⟩ := bnd_some ev
  obtain ⟨e3, rfl⟩ := lft_some e2
  unfold appE at e3
  split at e3
  · next ds e =>
    split at e3
    · next hz =>
      cases e3
      obtain ⟨l, vs, h1, hl, r, _⟩ := R.app e
      refine ⟨_, h1, .inl ⟨rfl, vs, .inl (.inl hl)⟩, E0, En, H0, ρ, t, d, t', R, e1, fun H1 H1' v R1 g1 r1 => ?_⟩
      obtain ⟨l', vs', h1', hl', r', up⟩ := R1.app e
      rw [h1] at h1'
      cases h1'
      refine ⟨l, vs', v, rfl, rfl, hl', ?_, q _ _ _ (up _ _ (r'.append (.one r1))) g1.base⟩
      rw [← r'.length]
      exact Nat.lt_of_le_of_lt hz (by decide)
    · cases e3
  · cases e3
/-- d[k] = v, d the slot's own dict -/
def dput (ks : List (Str × D)) (x : Str) (d : D) : List (Str × D) :=
  if (ks.any fun p => decide (p.1 = x)) = true then ks.map (fun p => if p.1 = x then (p.1, d) else p) else ks ++ [(x, d)]
theorem RpK.any (x : Str) : ∀ {ks : List (Str × D)} {kvs : List (Key × V)}, RpK k H ks kvs → (ks.any fun p => decide (p.1 = x)) = (kvs.any fun p => decide (p.1 = Sum.inr x))
  | _, _, .nil => rfl
  | (y, d) :: ks, _, .cons h r => by
    rw [List.any_cons, List.any_cons, r.any x, key_rr]
theorem RpK.length : ∀ {ks : List (Str × D)} {kvs : List (Key × V)}, RpK k H ks kvs → ks.length = kvs.length
  | _, _, .nil => rfl
  | _, _, .cons _ r => by rw [List.length_cons, List.length_cons, r.length]
theorem RpK.repl (x : Str) {d : D} {v : V} (hv : Rp k H d v) : ∀ {ks : List (Str × D)} {kvs : List (Key × V)}, RpK k H ks kvs →
    RpK k H (ks.map (fun p => if p.1 = x then (p.1, d) else p)) (kvs.map fun kv => if kv.1 = Sum.inr x then (kv.1, v) else kv)
  | _, _, .nil => .nil
  | (y, e) :: ks, _, .cons (v := w) h r => by
    rw [List.map_cons, List.map_cons]
    by_cases q : y = x
    · rw [if_pos q, if_pos (congrArg Sum.inr q)]
      exact .cons hv (r.repl x hv)
    · rw [if_neg q, if_neg (fun z => q (Sum.inr.inj z))]
      exact .cons h (r.repl x hv)
theorem RpK.app : ∀ {ks : List (Str × D)} {kvs : List (Key × V)} {x : Str}, RpK k H ks kvs → Rp k H d v → RpK k H (ks ++ [(x, d)]) (kvs ++ [(.inr x, v)])
  | _, _, _, .nil, h => .cons h .nil
  | _, _, _, .cons h r, h2 => .cons h (r.app h2)
theorem RpK.put (r : RpK k H ks kvs) (x : Str) (hv : Rp k H d v) : RpK k H (dput ks x d) (putK kvs (.inr x) v) := by
  unfold dput putK
  rw [r.any x]
  split
  · exact r.repl x hv
  · exact r.app hv
def putE (i : Nat) (x d : D) (ρ : Env) : Option Out := match x, ρ[i]? with
  | .str x, some (some (.od ks)) => if ks.length ≤ 100000 then some (.nx (ρ.set i (some (.od (dput ks x d))))) else none
  | _, _ => none
theorem ss_dput (i : Nat) {x : Str} {p p2 : Pos} (hu : X.A.units + 1 < cLine) (ha : ED k C X a fa) (hb : ED k C X b fb) (hN : X.N[i]? = some x := by rfl) (hv : Vis X.env.scope x := by first | exact Or.inl rfl | exact Or.inr (Or.inl rfl) | exact Or.inr (Or.inr rfl)) (hd : (x == ("__debug__" : Str)) = false := by decide)
    (hcd : (x == ("__classdict__" : Str)) = false := by decide) (hs : swapsWith b (some (.Subscript (.Name x p) a p2)) pos.line X.env = pure false := by rfl) :
    SS k C X (.Assign [.Subscript (.Name x p) a p2] b pos) (fun ρ => bnd (fb ρ) fun d => bnd (fa ρ) fun z => lft (putE i z d ρ)) :=
  ps_imp (ps_dput hu (pe_var hN hv hd hcd) ha hb hs) fun N σ H ⟨E0, En, H0, ρ, t, o, t', R, ev, q⟩ => by
  obtain ⟨d, t1, e1, ev1⟩ := bnd_some ev
  obtain ⟨z, t2, e2, ev2⟩ := bnd_some ev1
  obtain ⟨e3, rfl⟩ := lft_some ev2
  unfold putE at e3
  split at e3
  · next x0 x ks e =>
    split at e3
    · next hz =>
      cases e3
      refine ⟨E0, En, H0, ρ, t, d, t1, R, e1, fun H1 H1' v R1 g1 r1 => ?_⟩
      obtain ⟨l, kvs, h1, hl, r, _⟩ := R1.dpt e
      refine ⟨.ref l, h1, E0, En, H1, ρ, t1, .str x, t', R1, e2, fun H2 H2' w R2 g2 r2 => ?_⟩
      cases r2
      obtain ⟨l', kvs', h1', hl', r', up⟩ := R2.dpt e
      rw [h1] at h1'
      cases h1'
      refine ⟨l, _, rfl, DPut.k (k := Sum.inr x) hl' (by rw [← r'.length]; exact Nat.lt_of_le_of_lt hz (by decide)), q _ _ _ (up _ _ (r'.put x (r1.ex g2.base))) (g1.trans g2).base⟩
    · cases e3
  · cases e3

/-! ## targets -/
/-- the slots is may change, and no others -/
def Chd (is : List Nat) (σ σ' : L2.St) : Prop := ∀ vs : List Nat, (∀ i ∈ is, i ∈ vs) → wipe σ' vs = wipe σ vs
theorem wipe_set {i : Nat} {x : Option V} : ∀ {vs : List Nat}, i ∈ vs → wipe (σ.set i x) vs = wipe σ vs
  | [], h => by cases h
  | v :: vs, h => by
    unfold wipe
    by_cases e : i ∈ vs
    · rw [wipe_set e]
    · have ei : i = v := by
        rcases List.mem_cons.mp h with h | h
        · exact h
        · exact absurd h e
      subst ei
      have gen : ∀ (ws : List Nat), i ∉ ws → wipe (σ.set i x) ws = (wipe σ ws).set i x := by
        intro ws
        induction ws with
        | nil => intro _; rfl
        | cons w ws ih =>
          intro hw
          unfold wipe
          rw [ih fun z => hw (List.mem_cons_of_mem _ z), List.set_comm _ _ (fun z => hw (by rw [z]; exact List.mem_cons_self))]
      rw [gen vs e, List.set_set]
theorem Chd.set (i : Nat) (x : Option V) : Chd [i] σ (σ.set i x) := fun vs h => wipe_set (h i List.mem_cons_self)
theorem Chd.trans {is js : List Nat} {σ1 σ2 : L2.St} (a : Chd is σ σ1) (b : Chd js σ1 σ2) : Chd (is ++ js) σ σ2 := fun vs h => (b vs fun i m => h i (List.mem_append_right _ m)).trans (a vs fun i m => h i (List.mem_append_left _ m))
def tG (k : Kx) (C : Cell T) (is : List Nat) (b : D → Env → Option Env) : TG := fun v σ H Q => ∃ E0 En H0 ρ t d ρ', RS k C E0 En H0 H σ ρ t ∧ Rp k H0 d v ∧ b d ρ = some ρ' ∧ ∀ σ', RS k C E0 En H0 H σ' ρ' t → Chd is σ σ' → Q σ' H
abbrev GT (k : Kx) (C : Cell T) (X : Cx) (tg : Expr) (is : List Nat) (b : D → Env → Option Env) : Prop := PG X tg (tG k C is b)
theorem pg_imp {tg : Expr} {t u : TG} (h : PG X tg t) (i : ∀ v σ H Q, u v σ H Q → t v σ H Q) : PG X tg u := ⟨fun pins s σ H v w Q I r q => h.run pins s σ H v w Q I r (i v σ H Q q)⟩
theorem gt_name (i : Nat) {x : Str} (hN : X.N.Nodup) (hi : X.N[i]? = some x := by rfl) (hx : Loc X.env.scope x := by first | exact Or.inl rfl | exact Or.inr rfl) (hf : X.fn x = true ∨ X.env.scope.names.lookup x = some .local := by first | exact .inl rfl | exact .inr rfl | assumption) :
    GT k C X (.Name x pos) [i] (fun d ρ => some (ρ.set i (some (.val d)))) := pg_imp (pg_name hN hi hx hf) fun v σ H Q ⟨E0, En, H0, ρ, t, d, ρ', R, r, e, q⟩ => by
  cases e
  exact q _ (R.put i r) (Chd.set i _)
/-- (a, b) -/
theorem gt_two (i j : Nat) {x y : Str} {px py : Pos} {n : Nat} (hc : X.calm = true) (hN : X.N.Nodup) (hi : X.N[i]? = some x := by rfl) (hj : X.N[j]? = some y := by rfl) (hx : Loc X.env.scope x := by first | exact Or.inl rfl | exact Or.inr rfl) (hy : Loc X.env.scope y := by first | exact Or.inl rfl | exact Or.inr rfl)
    (hfx : X.fn x = true ∨ X.env.scope.names.lookup x = some .local := by first | exact .inl rfl | exact .inr rfl | assumption) (hfy : X.fn y = true ∨ X.env.scope.names.lookup y = some .local := by first | exact .inl rfl | exact .inr rfl | assumption) :
    GT k C X (.Tuple [.Name x px, .Name y py] n pos) [i, j] (fun d ρ => match seqOf d with
      | some [a, b] => some ((ρ.set i (some (.val a))).set j (some (.val b)))
      | _ => none) := by
  have h1 := pg_tup (pos := pos) (k := n) hc (pgs_cons (pg_name (X := X) (pos := px) hN hi hx hfx) (pgs_cons (pg_name (X := X) (pos := py) hN hj hy hfy) pgs_nil))
  have h2 := pg_unl (pos := pos) (k := n) hc (pgs_cons (pg_name (X := X) (pos := px) hN hi hx hfx) (pgs_cons (pg_name (X := X) (pos := py) hN hj hy hfy) pgs_nil))
  refine ⟨fun pins s σ H v w Q I r ⟨E0, En, H0, ρ, t, d, ρ', R, rd, e, q⟩ => ?_⟩
  cases hs : seqOf d with
  | none => simp only [hs] at e; cases e
  | some xs =>
    simp only [hs] at e
    match xs, e, hs with
    | [x1, x2], e, hs =>
      cases e
      obtain ⟨l, vs, rfl, hl, ra⟩ := (Rd1.of R rd).seq R hs
      cases ra with
      | cons r1 ra =>
        cases ra with
        | cons r2 ra =>
          cases ra
          have fin := q _ ((R.put (s := .val x1) i r1).put (s := .val x2) j r2) ((Chd.set i _).trans (Chd.set j _))
          rcases hl with hl | hl
          · exact h2.run pins s σ H _ w Q I r ⟨l, _, rfl, .inl (.inl hl), rfl, _, _, rfl, _, _, rfl, rfl, fin⟩
          · exact h1.run pins s σ H _ w Q I r ⟨l, _, rfl, .inl hl, rfl, _, _, rfl, _, _, rfl, rfl, fin⟩
    | [], e, _ => cases e
    | [_], e, _ => cases e
    | _ :: _ :: _ :: _, e, _ => cases e
theorem gt_three (i j m : Nat) {x y z : Str} {px py pz : Pos} {n : Nat} (hc : X.calm = true) (hN : X.N.Nodup) (hi : X.N[i]? = some x := by rfl) (hj : X.N[j]? = some y := by rfl) (hm : X.N[m]? = some z := by rfl) (hx : Loc X.env.scope x := by first | exact Or.inl rfl | exact Or.inr rfl) (hy : Loc X.env.scope y := by first | exact Or.inl rfl | exact Or.inr rfl) (hz : Loc X.env.scope z := by first | exact Or.inl rfl | exact Or.inr rfl)
    (hfx : X.fn x = true ∨ X.env.scope.names.lookup x = some .local := by first | exact .inl rfl | exact .inr rfl | assumption) (hfy : X.fn y = true ∨ X.env.scope.names.lookup y = some .local := by first | exact .inl rfl | exact .inr rfl | assumption) (hfz : X.fn z = true ∨ X.env.scope.names.lookup z = some .local := by first | exact .inl rfl | exact .inr rfl | assumption) :
    GT k C X (.Tuple [.Name x px, .Name y py, .Name z pz] n pos) [i, j, m] (fun d ρ => match seqOf d with
      | some [a, b, c] => some (((ρ.set i (some (.val a))).set j (some (.val b))).set m (some (.val c)))
      | _ => none) := by
  have h1 := pg_tup (pos := pos) (k := n) hc (pgs_cons (pg_name (X := X) (pos := px) hN hi hx hfx) (pgs_cons (pg_name (X := X) (pos := py) hN hj hy hfy) (pgs_cons (pg_name (X := X) (pos := pz) hN hm hz hfz) pgs_nil)))
  have h2 := pg_unl (pos := pos) (k := n) hc (pgs_cons (pg_name (X := X) (pos := px) hN hi hx hfx) (pgs_cons (pg_name (X := X) (pos := py) hN hj hy hfy) (pgs_cons (pg_name (X := X) (pos := pz) hN hm hz hfz) pgs_nil)))
  refine ⟨fun pins s σ H v w Q I r ⟨E0, En, H0, ρ, t, d, ρ', R, rd, e, q⟩ => ?_⟩
  cases hs : seqOf d with
  | none => simp only [hs] at e; cases e
  | some xs =>
    simp only [hs] at e
    match xs, e, hs with
    | [x1, x2, x3], e, hs =>
      cases e
      obtain ⟨l, vs, rfl, hl, ra⟩ := (Rd1.of R rd).seq R hs
      cases ra with
      | cons r1 ra =>
        cases ra with
        | cons r2 ra =>
          cases ra with
          | cons r3 ra =>
            cases ra
            have fin := q _ (((R.put (s := .val x1) i r1).put (s := .val x2) j r2).put (s := .val x3) m r3) (((Chd.set i _).trans (Chd.set j _)).trans (Chd.set m _))
            rcases hl with hl | hl
            · exact h2.run pins s σ H _ w Q I r ⟨l, _, rfl, .inl (.inl hl), rfl, _, _, rfl, _, _, rfl, _, _, rfl, rfl, fin⟩
            · exact h1.run pins s σ H _ w Q I r ⟨l, _, rfl, .inl hl, rfl, _, _, rfl, _, _, rfl, _, _, rfl, rfl, fin⟩
    | [], e, _ => cases e
    | [_], e, _ => cases e
    | [_, _], e, _ => cases e
    | _ :: _ :: _ :: _ :: _, e, _ => cases e
/-- (a, b) = e -/
theorem ss_unp {tg : Expr} {is : List Nat} {bd : D → Env → Option Env} (ha : ED k C X a fa) (hg : GT k C X tg is bd) (hs : swapsWithSole [tg] a pos.line X.env = pure false := by rfl) (hw : swappedStores [tg] a X.env = pure none := by rfl)
    (h1 : (assignEach [tg] X.env).map (·.2) = [assign tg X.env] := by rfl) : SS k C X (.Assign [tg] a pos) (fun ρ => bnd (fa ρ) fun d => bnd (lft (bd d ρ)) fun ρ' => ret (.nx ρ')) := ps_imp (ps_asg ha hg hs hw h1) fun N σ H ⟨E0, En, H0, ρ, t, o, t', R, ev, q⟩ => by
  obtain ⟨d, t1, e1, ev1⟩ := bnd_some ev
  obtain ⟨ρ', t2, e2, ev2⟩ := bnd_some ev1
  obtain ⟨rfl, rfl⟩ := ret_some ev2
  obtain ⟨e3, rfl⟩ := lft_some e2
  exact ⟨E0, En, H0, ρ, t, d, _, R, e1, fun H1 H1' v R1 g1 r1 => ⟨E0, En, H1, ρ, _, d, ρ', R1, r1, e3, fun σ' R2 _ => q _ _ _ R2 g1.base⟩⟩

/-! ## walks -/
/-- the iterator gives these, in turn -/
def Jok (k : Kx) (C : Cell T) (J : It) (H0 : Hp) (ds : List D) : Prop := ∀ (i : Nat) (H1 H : Hp), Ex H0 H1 → Ex H1 H → (ds.length ≤ i → J.stop i H) ∧
  ∀ d, ds[i]? = some d → J.go i H ∧ ∀ x H', J.yld i H x H' → (H' = H ∧ Rp k H1 d x) ∨ ∃ p vs, H p = none ∧ H' = upd H p (.tup vs) ∧ x = .ref p ∧ Rp k (upd H1 p (.tup vs)) d x
def tI (k : Kx) (C : Cell T) (f : Env → M T (List D)) : TI := fun σ H R => ∃ E0 En H0 ρ t ds t', RS k C E0 En H0 H σ ρ t ∧ f ρ t = some (ds, t') ∧
  ∀ H0' H' J, RS k C E0 En H0' H' σ ρ t' → Go C H0 H H0' H' → Jok k C J H0' ds → R J H'
abbrev WI (k : Kx) (C : Cell T) (X : Cx) (tg iter : Expr) (f : Env → M T (List D)) : Prop := PI X tg iter (tI k C f)
theorem pi_imp {tg iter : Expr} {w u : TI} (h : PI X tg iter w) (i : ∀ σ H R, u σ H R → w σ H R) : PI X tg iter u := ⟨fun pins s σ H R I q => h.run pins s σ H R I (i σ H R q)⟩
/-- a list or a tuple that stands -/
theorem wi_seq {tg : Expr} (ha : ED k C X a fa) : WI k C X tg a (fun ρ => bnd (fa ρ) fun d => lft (seqOf d)) := by
  refine ⟨fun pins s σ H R I ⟨E0, En, H0, ρ, t, ds, t', Rr, ev, q⟩ => ?_⟩
  obtain ⟨d, t1, e1, ev1⟩ := bnd_some ev
  obtain ⟨e2, rfl⟩ := lft_some ev1
  refine thn (ha.run pins s σ H (fun v H' => ∃ H0', RS k C E0 En H0' H' σ ρ t' ∧ Go C H0 H H0' H' ∧ Rp k H0' d v) I ⟨E0, En, H0, ρ, t, d, t', Rr, e1, fun H0' H' v R1 g1 r1 => ⟨H0', R1, g1, r1⟩⟩) fun u s1 ⟨v, H1, I1, ru, H01, R1, g1, r1⟩ => ?_
  have jt : ∀ {H1 : Hp} {a : Addr} {vs : List V}, (∀ H3, Ex H1 H3 → Rd H3 a (.tup vs)) → RpA k H1 ds vs → Jok k C (Itt X.K a) H1 ds := fun {H1 a vs} st r i H2 H3 e1 e2 => by
    have hl : SqT X.K H3 a vs := .inl (st H3 (e1.trans e2))
    refine ⟨fun hi => ⟨vs, hl, by rw [← r.length]; exact hi⟩, fun d hd => ?_⟩
    obtain ⟨w, h1, h2⟩ := r.get hd
    refine ⟨⟨vs, w, hl, h1⟩, fun x H' ⟨y1, y2⟩ => .inl ⟨y1, ?_⟩⟩
    have := y2 vs hl
    rw [h1] at this
    cases this
    exact h2.ex e1
  have tp : ∀ {H1 H01 : Hp} {s1 : Shared} {a : Addr} {vs : List V}, Inv X pins σ H1 s1 → RS k C E0 En H01 H1 σ ρ t' → Go C H0 H H01 H1 → (∀ H3, Ex H01 H3 → Rd H3 a (.tup vs)) → RpA k H01 ds vs → wpAny (model X.prog X.w) X.A (pyIter (.ref a)) (PIE X pins σ tg R) X.xe s1 := fun {H1 H01 s1 a vs} I1 R1 g1 st r => by
    obtain ⟨its, rv, p, hz⟩ := I1.tuple (.inl (st H1 R1.sub))
    refine wpAny_pyIter_tuple (show s1.heap.IsTuple a its.toArray from p) ?_
    refine ⟨s1.heap.objs.size, [s1.heap.objs.size], _, _, H1, rfl, I1.kept (t' := s1.toks) fun b o e => Heap.get?_push_of_some _ e, turn_tuple a _, ⟨_, Heap.get?_push_size _ rfl, rfl, rfl⟩, fun b hb => ?_, q H01 H1 (Itt X.K a) R1 g1 (jt st r)⟩
    have e : b = s1.heap.objs.size := by simpa using hb
    subst e
    exact I1.fpOk (Nat.le_refl _) (I1.hok.fresh (Nat.le_refl _))
  cases d <;> first | (cases e2; done) | skip
  · cases e2
    cases r1 with
    | tup h n r =>
      cases ru
      exact tp I1 R1 g1 (fun H3 e => .inr ⟨_, e _ _ h⟩) r
  · cases e2
    cases r1 with
    | lst h r =>
      next a vs =>
      cases ru
      obtain ⟨its, rv, p, hz⟩ := I1.list (.inl (.inl (R1.sub _ _ h)))
      refine wpAny_pyIter_list p.isList ?_
      refine ⟨s1.heap.objs.size, [s1.heap.objs.size], _, _, H1, rfl, I1.kept (t' := s1.toks) fun b o e => Heap.get?_push_of_some _ e, turn_list a _, ⟨_, Heap.get?_push_size _ rfl, rfl, rfl⟩, fun b hb => ?_, q H01 H1 (Itl X.K a) R1 g1 ?_⟩
      · have e : b = s1.heap.objs.size := by simpa using hb
        subst e
        exact I1.fpOk (Nat.le_refl _) (I1.hok.fresh (Nat.le_refl _))
      · intro i H2 H3 e1 e2
        have hl : SqL X.K H3 a vs := .inl (.inl ((e1.trans e2) _ _ h))
        refine ⟨fun hi => ⟨vs, hl, by rw [← r.length]; exact hi⟩, fun d hd => ?_⟩
        obtain ⟨w, h1, h2⟩ := r.get hd
        refine ⟨⟨vs, w, hl, h1⟩, fun x H' ⟨y1, y2⟩ => .inl ⟨y1, ?_⟩⟩
        have := y2 vs hl
        rw [h1] at this
        cases this
        exact h2.ex e1
  · next x y =>
    cases e2
    cases r1 with
    | pr h r r2 =>
      cases ru
      exact tp I1 R1 g1 (fun H3 e => .inl (e _ _ h)) (.cons r (.cons r2 .nil))

/-! ## for -/
def forF {T : Type} (bd : D → Env → Option Env) (f : Env → M T Out) : List D → Env → M T Out
  | [], ρ => ret (.nx ρ)
  | x :: xs, ρ => bnd (lft (bd x ρ)) fun ρ1 => bnd (f ρ1) fun o => match o with
    | .nx ρ' => forF bd f xs ρ'
    | .ct ρ' => forF bd f xs ρ'
    | .bk ρ' => ret (.nx ρ')
    | .rt d => ret (.rt d)
theorem ss_for {tg iter : Expr} {body : List Stmt} {is : List Nat} {bd : D → Env → Option Env} {fi : Env → M T (List D)} (hp : PassesOwn (model X.prog X.w) X.A X.env X.xe) (hc : X.calm = true) (hi : WI k C X tg iter fi) (hg : GT k C X tg is bd) (hb : SB k C X body f)
    (hs : ∀ x, foldedSetIterable iter X.env x = pure x := by intro _; rfl) : SS k C X (.For tg iter body [] pos) (fun ρ => bnd (fi ρ) fun xs => forF bd f xs ρ) :=
  ps_imp (ps_for hp hc hi hg hb hs) fun N σ H ⟨E0, En, H0, ρ, t, o, t', R, ev, q⟩ => by
  obtain ⟨xs, t1, e1, ev1⟩ := bnd_some ev
  refine ⟨E0, En, H0, ρ, t, xs, t1, R, e1, fun H1 H1' J R1 g1 jk => ?_⟩
  -- the invariant: the rest of the walk gives o
  refine ⟨fun i m σ' H' => m = xs.length - i ∧ i ≤ xs.length ∧ ∃ H0' ρ' t2, RS k C E0 En H0' H' σ' ρ' t2 ∧ Ex H1 H0' ∧ forF bd f (xs.drop i) ρ' t2 = some (o, t'), ⟨xs.length, by simp, Nat.zero_le _, H1, ρ, t1, R1, Same.refl _, ev1⟩, ?_⟩
  rintro i m σ2 H2 ⟨rfl, hi, H02, ρ2, t2, R2, ex2, e2⟩
  obtain ⟨j1, j2⟩ := jk i H02 H2 ex2 R2.sub
  by_cases hlt : i < xs.length
  · have hd : xs.drop i = xs[i] :: xs.drop (i + 1) := List.drop_eq_getElem_cons hlt
    rw [hd] at e2
    obtain ⟨ρ3, t3, e3, e4⟩ := bnd_some e2
    obtain ⟨o1, t4, e5, e6⟩ := bnd_some e4
    obtain ⟨e7, rfl⟩ := lft_some e3
    obtain ⟨go, yl⟩ := j2 xs[i] (List.getElem?_eq_getElem hlt)
    refine .inr ⟨go, fun σ' H' => ∃ H0' ρ' t5, RS k C E0 En H0' H' σ' ρ' t5 ∧ Ex H1 H0' ∧ forF bd f (xs.drop (i + 1)) ρ' t5 = some (o, t'), fun σ' H' w => ⟨xs.length - (i + 1), by omega, rfl, hlt, w⟩, fun x H' y => ?_⟩
    have body : ∀ H0' H', RS k C E0 En H0' H' σ2 ρ2 t3 → Ex H02 H0' → Rp k H0' xs[i] x → tG k C is bd x σ2 H' fun σ3 H3 => tS k C f { N with nx := fun σ' H' => ∃ H0' ρ' t5, RS k C E0 En H0' H' σ' ρ' t5 ∧ Ex H1 H0' ∧ forF bd f (xs.drop (i + 1)) ρ' t5 = some (o, t'), ct := fun σ' H' => ∃ H0' ρ' t5, RS k C E0 En H0' H' σ' ρ' t5 ∧ Ex H1 H0' ∧ forF bd f (xs.drop (i + 1)) ρ' t5 = some (o, t'), bk := N.nx } σ3 H3 := fun H0' H' R3 ex3 r3 => by
      refine ⟨E0, En, H0', ρ2, t3, xs[i], ρ3, R3, r3, e7, fun σ3 R4 _ => ?_⟩
      refine ⟨E0, En, H0', ρ3, t3, o1, t4, R4, e5, ?_⟩
      cases o1 with
      | nx ρ4 => exact fun a b c R5 z => ⟨a, ρ4, t4, R5, ex2.trans (ex3.trans z), e6⟩
      | ct ρ4 => exact fun a b c R5 z => ⟨a, ρ4, t4, R5, ex2.trans (ex3.trans z), e6⟩
      | bk ρ4 =>
        obtain ⟨rfl, rfl⟩ := ret_some e6
        exact fun a b c R5 z => q a b c R5 (g1.base.trans (ex2.trans (ex3.trans z)))
      | rt d =>
        obtain ⟨rfl, rfl⟩ := ret_some e6
        exact q
    rcases yl x H' y with ⟨rfl, r3⟩ | ⟨p, vs, hp', rfl, rfl, r3⟩
    · exact body H02 H' R2 (Same.refl _) r3
    · obtain ⟨R3, g3⟩ := R2.new (.tup vs) hp'
      exact body _ _ R3 g3.base r3
  · have e : i = xs.length := by omega
    subst e
    rw [List.drop_length] at e2
    obtain ⟨rfl, rfl⟩ := ret_some e2
    exact .inl ⟨j1 (Nat.le_refl _), q _ _ _ R2 (g1.base.trans ex2)⟩
end
end MM
/-! M5 -/
namespace MM
open PySem PySem.Spec PyProof.Rows L2
section
variable {T : Type} {k : Kx} {C : Cell T} {E0 En H0 H H0' H' : Hp} {σ : L2.St} {ρ : Env} {t t' : T} {d : D} {v : V} {ds : List D} {vs : List V} {ks : List (Str × D)} {kvs : List (Key × V)} {l : Addr}
variable {X : Cx} {a b c e : Expr} {es : List Expr} {pos : Pos} {fa fb fc : Env → M T D} {st : Stmt} {sts : List Stmt} {f g : Env → M T Out}

/-! ## while -/
def whileF {T : Type} (c : Env → M T Bool) (f : Env → M T Out) : Nat → Env → M T Out
  | 0, _ => fun _ => none
  | n + 1, ρ => bnd (c ρ) fun b => match b with
    | false => ret (.nx ρ)
    | true => bnd (f ρ) fun o => match o with
      | .nx ρ' => whileF c f n ρ'
      | .ct ρ' => whileF c f n ρ'
      | .bk ρ' => ret (.nx ρ')
      | .rt d => ret (.rt d)
theorem ss_while (n : Nat) {fc : Env → M T Bool} {body : List Stmt} (hp : PassesOwn (model X.prog X.w) X.A X.env X.xe) (hc : ET k C X c fc) (hb : SB k C X body f) : SS k C X (.While c body [] pos) (fun ρ => whileF fc f n ρ) :=
  ps_imp (ps_while hp hc hb) fun N σ H ⟨E0, En, H0, ρ, t, o, t', R, ev, q⟩ => by
  refine ⟨fun m σ' H' => ∃ H0' ρ' t2, RS k C E0 En H0' H' σ' ρ' t2 ∧ Ex H0 H0' ∧ whileF fc f m ρ' t2 = some (o, t'), ⟨n, H0, ρ, t, R, Same.refl _, ev⟩, ?_⟩
  rintro m σ2 H2 ⟨H02, ρ2, t2, R2, ex2, e2⟩
  cases m with
  | zero => cases e2
  | succ m =>
    obtain ⟨b, t3, e3, e4⟩ := bnd_some e2
    refine ⟨E0, En, H02, ρ2, t2, b, t3, R2, e3, fun H3 H3' R3 g3 => ?_⟩
    cases b with
    | false =>
      obtain ⟨rfl, rfl⟩ := ret_some e4
      exact iteF (q _ _ _ R3 (ex2.trans g3.base))
    | true =>
      obtain ⟨o1, t4, e5, e6⟩ := bnd_some e4
      refine iteT ⟨fun σ' H' => ∃ H0' ρ' t5, RS k C E0 En H0' H' σ' ρ' t5 ∧ Ex H0 H0' ∧ whileF fc f m ρ' t5 = some (o, t'), fun σ' H' w => ⟨m, Nat.lt_succ_self m, w⟩, E0, En, H3, ρ2, t3, o1, t4, R3, e5, ?_⟩
      cases o1 with
      | nx ρ4 => exact fun a b c R5 z => ⟨a, ρ4, t4, R5, ex2.trans (g3.base.trans z), e6⟩
      | ct ρ4 => exact fun a b c R5 z => ⟨a, ρ4, t4, R5, ex2.trans (g3.base.trans z), e6⟩
      | bk ρ4 =>
        obtain ⟨rfl, rfl⟩ := ret_some e6
        exact fun a b c R5 z => q a b c R5 (ex2.trans (g3.base.trans z))
      | rt d =>
        obtain ⟨rfl, rfl⟩ := ret_some e6
        exact q

/-! ## comprehensions -/
def wipeE (ρ : Env) : List Nat → Env
  | [] => ρ
  | v :: vs => (wipeE ρ vs).set v none
theorem RS.none (R : RS k C E0 En H0 H σ ρ t) (i : Nat) : RS k C E0 En H0 H (σ.set i Option.none) (ρ.set i Option.none) t where
  go := R.go
  sub := R.sub
  rep := R.rep
  mt := R.mt
  len := by rw [List.length_set, List.length_set]; exact R.len
  slot := fun j x sv h1 h2 => by
    by_cases e : i = j
    · subst e
      rw [List.getElem?_set_self'] at h2
      cases q2 : ρ[i]? with
      | none => rw [q2] at h2; cases h2
      | some y2 =>
        rw [q2] at h2
        cases h2
        trivial
    · rw [List.getElem?_set_ne e] at h1 h2
      exact R.slot j x sv h1 h2
  own := fun a b l ha hb => by
    have back : ∀ {j}, Owns (σ.set i Option.none) (ρ.set i Option.none) j l → Owns σ ρ j l := fun {j} ⟨o1, o2⟩ => by
      by_cases e : i = j
      · subst e
        rw [List.getElem?_set_self'] at o1
        cases q : σ[i]? with
        | none => rw [q] at o1; cases o1
        | some y => rw [q] at o1; cases o1
      · rw [List.getElem?_set_ne e] at o1 o2
        exact ⟨o1, o2⟩
    exact R.own a b l (back ha) (back hb)
  tb := R.tb
theorem RS.wipe (R : RS k C E0 En H0 H σ ρ t) : ∀ vs : List Nat, RS k C E0 En H0 H (L2.wipe σ vs) (wipeE ρ vs) t
  | [] => R
  | v :: vs => (R.wipe vs).none v
/-- an object that was not known at the start changes -/
theorem Go.chg {A0 A B0 B : Hp} {p : Addr} {o : HO} (g : Go C A0 A B0 B) (hp : A p = none) (no : NT o := by intro _ h; cases h) : Go C A0 A B0 (upd B p o) :=
  ⟨g.base, fun a u e n => by rw [upd_ne (ne_of_none e hp)]; exact g.act a u e n, g.nof, fun a z => by
    by_cases e : a = p
    · rw [e]; exact hp
    · rw [upd_ne e] at z; exact g.trk a z,
  fun a ps e => by
    by_cases h : a = p
    · rw [h, upd_same] at e; exact absurd (Option.some.inj e) (no ps)
    · rw [upd_ne h] at e; exact g.ntb a ps e⟩
theorem Cell.chg {p : Addr} {o u : HO} (r : C.rep t H) (hp : H p = some u) (hu : Chg u) (nm : ¬ C.mu p) : C.rep t (upd H p o) := C.stay t H _ r fun y x e n => by
  rw [upd_ne (fun z => ?_)]
  · exact e
  · rw [z, hp] at e
    cases e
    rcases n with n | n
    · rw [z] at n; exact nm n
    · exact n hu
def compF {T : Type} (bd : D → Env → Option Env) (ft : Env → M T Bool) (fe : Env → M T D) : List D → Env → M T (List D)
  | [], _ => ret []
  | x :: xs, ρ => bnd (lft (bd x ρ)) fun ρ1 => bnd (ft ρ1) fun b => match b with
    | true => bnd (fe ρ1) fun y => bnd (compF bd ft fe xs ρ) fun ys => ret (y :: ys)
    | false => compF bd ft fe xs ρ
theorem pts_t0 : PTs X [] (tT k C (fun _ => ret true)) := ⟨fun pins s σ H Q I ⟨E0, En, H0, ρ, t, d, t', R, ev, q⟩ => by
  obtain ⟨rfl, rfl⟩ := ret_some ev
  exact pts_nil.run pins s σ H Q I (q _ _ R Go.refl)⟩
theorem pts_t1 {fc : Env → M T Bool} (h : ET k C X c fc) : PTs X [c] (tT k C fc) := pts_one h
variable {tg iter elt kx vx : Expr} {ifs : List Expr} {scope : Scope} {own : List (Str × Nat)} {is : List Nat} {bd : D → Env → Option Env} {ft : Env → M T Bool} {fe fk fv : Env → M T D} {fi : Env → M T (List D)}
/-- the comprehension's turns -/
theorem lc_pf {Q : VK} (vs : List Nat) (his : ∀ i ∈ is, i ∈ vs) (h : tL k C (fun ρ => bnd (fi ρ) fun xs => bnd (lft (sml xs)) fun xs => compF bd ft fe xs (wipeE ρ vs)) σ H Q) :
    tLc (tI k C fi) (tG k C is bd) (tT k C ft) (tD k C fe) vs σ H Q := by
  obtain ⟨E0, En, H0, ρ, t, res, t', R, ev, q⟩ := h
  obtain ⟨xs, t1, e1, ev1⟩ := bnd_some ev
  obtain ⟨ys, t2, f2, ev2⟩ := bnd_some ev1
  obtain ⟨e2, rfl⟩ := lft_some f2
  obtain ⟨rfl, _, hz⟩ := sml_some e2
  refine ⟨E0, En, H0, ρ, t, xs, t2, R, e1, fun H1 H1' J R1 g1 jk p hp => ?_⟩
  obtain ⟨n1, n0, nm⟩ := R1.fresh hp
  refine ⟨fun i m H => m = xs.length - i ∧ i ≤ xs.length ∧ ∃ Hc t3 acc accD rest, Go C H1 H1' Hc H ∧ Ex Hc H ∧ C.rep t3 H ∧ Hc p = none ∧ H p = some (.lst acc) ∧ RpA k Hc accD acc ∧ acc.length ≤ i ∧ compF bd ft fe (xs.drop i) (wipeE ρ vs) t3 = some (rest, t') ∧ accD ++ rest = res,
    ⟨xs.length, by simp, Nat.zero_le _, H1, t2, [], [], res, Go.own hp (by intro _ h; cases h), R1.sub.trans (ex_new hp), C.ext R1.rep (ex_new hp), n0, upd_same, .nil, Nat.le_refl _, ev2, rfl⟩, ?_⟩
  rintro i m H2 ⟨rfl, hi, Hc, t3, acc, accD, rest, g2, s2, r2, hc0, hcp, ra, hl, e3, rfl⟩
  obtain ⟨j1, j2⟩ := jk i Hc H2 g2.base s2
  by_cases hlt : i < xs.length
  · have hd : xs.drop i = xs[i] :: xs.drop (i + 1) := List.drop_eq_getElem_cons hlt
    rw [hd] at e3
    obtain ⟨ρ3, t4, f4, e4⟩ := bnd_some e3
    obtain ⟨b, t5, e5, e6⟩ := bnd_some e4
    obtain ⟨e7, rfl⟩ := lft_some f4
    obtain ⟨go, yl⟩ := j2 xs[i] (List.getElem?_eq_getElem hlt)
    refine .inr ⟨go, fun H => i + 1 ≤ xs.length ∧ ∃ Hc t3 acc accD' rest', Go C H1 H1' Hc H ∧ Ex Hc H ∧ C.rep t3 H ∧ Hc p = none ∧ H p = some (.lst acc) ∧ RpA k Hc accD' acc ∧ acc.length ≤ i + 1 ∧ compF bd ft fe (xs.drop (i + 1)) (wipeE ρ vs) t3 = some (rest', t') ∧ accD' ++ rest' = accD ++ rest,
      fun H' w => ⟨xs.length - (i + 1), by omega, rfl, w⟩, fun x H' y => ?_⟩
    have body : ∀ Hd H', Go C H1 H1' Hd H' → Ex Hd H' → C.rep t4 H' → Hd p = none → H' p = some (.lst acc) → Ex Hc Hd → Rp k Hd xs[i] x → tG k C is bd x (L2.wipe σ vs) H' fun σ2 H2 => L2.wipe σ2 vs = L2.wipe σ vs ∧ tT k C ft σ2 H2 fun b H3 =>
        if b = true then tD k C fe σ2 H3 fun y H4 => ∃ acc, H4 p = some (.lst acc) ∧ acc.length < sizeLine ∧ (i + 1 ≤ xs.length ∧ ∃ Hc t3 acc_1 accD' rest', Go C H1 H1' Hc (upd H4 p (.lst (acc ++ [y]))) ∧ Ex Hc (upd H4 p (.lst (acc ++ [y]))) ∧ C.rep t3 (upd H4 p (.lst (acc ++ [y]))) ∧ Hc p = none ∧ (upd H4 p (.lst (acc ++ [y]))) p = some (.lst acc_1) ∧ RpA k Hc accD' acc_1 ∧ acc_1.length ≤ i + 1 ∧ compF bd ft fe (xs.drop (i + 1)) (wipeE ρ vs) t3 = some (rest', t') ∧ accD' ++ rest' = accD ++ rest)
        else (i + 1 ≤ xs.length ∧ ∃ Hc t3 acc accD' rest', Go C H1 H1' Hc H3 ∧ Ex Hc H3 ∧ C.rep t3 H3 ∧ Hc p = none ∧ H3 p = some (.lst acc) ∧ RpA k Hc accD' acc ∧ acc.length ≤ i + 1 ∧ compF bd ft fe (xs.drop (i + 1)) (wipeE ρ vs) t3 = some (rest', t') ∧ accD' ++ rest' = accD ++ rest) := by
      intro Hd H' g3 s3 r3 hd0 hdp exd rx
      have R3 : RS k C E0 En Hd H' σ ρ t4 := R1.step g3 s3 r3
      refine ⟨E0, En, Hd, wipeE ρ vs, t4, xs[i], ρ3, R3.wipe vs, rx, e7, fun σ2 R4 ch => ⟨?_, E0, En, Hd, ρ3, t4, b, t5, R4, e5, fun H5 H5' R5 g5 => ?_⟩⟩
      · rw [ch vs his]
        -- wiping twice is wiping once
        have idem : ∀ (ws : List Nat) (τ : L2.St), (∀ i ∈ ws, i ∈ vs) → L2.wipe (L2.wipe τ ws) vs = L2.wipe τ vs := by
          intro ws
          induction ws with
          | nil => intro τ _; rfl
          | cons w ws ih =>
            intro τ hw
            show L2.wipe ((L2.wipe τ ws).set w Option.none) vs = _
            rw [wipe_set (hw w List.mem_cons_self)]
            exact ih τ fun i hi => hw i (List.mem_cons_of_mem _ hi)
        exact idem vs σ fun _ h => h
      · have gp5 : H5' p = some (.lst acc) := g5.act p _ hdp nm
        have h50 : H5 p = Option.none := g5.nof p (by rw [hdp]; simp) hd0
        cases b with
        | false =>
          exact iteF ⟨hlt, H5, t5, acc, accD, rest, g3.trans g5, R5.sub, R5.rep, h50, gp5, ra.ex (exd.trans g5.base), Nat.le_succ_of_le hl, e6, rfl⟩
        | true =>
          obtain ⟨y1, t6, e8, e9⟩ := bnd_some e6
          obtain ⟨ys, t7, e10, e11⟩ := bnd_some e9
          obtain ⟨rfl, rfl⟩ := ret_some e11
          refine iteT ⟨E0, En, H5, ρ3, t5, y1, t6, R5, e8, fun H6 H6' w R6 g6 r6 => ?_⟩
          have gp6 : H6' p = some (.lst acc) := g6.act p _ gp5 nm
          have h60 : H6 p = Option.none := g6.nof p (by rw [gp5]; simp) h50
          exact ⟨acc, gp6, by omega, hlt, H6, t6, acc ++ [w], accD ++ [y1], ys, ((g3.trans g5).trans g6).chg hp, R6.sub.mu h60, Cell.chg R6.rep gp6 trivial nm, h60, upd_same, (ra.ex (exd.trans (g5.base.trans g6.base))).append (.one r6), by rw [List.length_append, List.length_singleton]; omega, e10, by simp⟩
    rcases yl x H' y with ⟨rfl, r3⟩ | ⟨p2, vs2, hp2, rfl, rfl, r3⟩
    · exact body Hc H' g2 s2 r2 hc0 hcp (Same.refl _) r3
    · have n2 : p ≠ p2 := ne_of_none hcp hp2
      have R3 : RS k C E0 En Hc H2 σ ρ t4 := R1.step g2 s2 r2
      obtain ⟨R4, g4⟩ := R3.new (.tup vs2) hp2
      exact body _ _ (g2.trans g4) R4.sub R4.rep (by rw [upd_ne n2]; exact hc0) (by rw [upd_ne n2]; exact hcp) g4.base r3
  · have e : i = xs.length := by omega
    subst e
    rw [List.drop_length] at e3
    obtain ⟨rfl, rfl⟩ := ret_some e3
    rw [List.append_nil] at q
    exact .inl ⟨j1 (Nat.le_refl _), q Hc H2 p acc (R1.step g2 s2 r2) (g1.trans g2) (g1.trk p hp) hc0 hcp ra⟩
theorem el_lc (own : List (Str × Nat)) (hc : X.calm = true) (hN : X.N.Nodup) (hi : WI k C X tg iter fi) (ok : BlkOk X.N X.env.scope scope own)
    (hg : ∀ (s : Shared) (H : Hp) (Cc : Addr) (cl : List (Str × Addr)) (fp : List Addr), GT k C (X.blk s H scope (compEnvC scope cl Cc X.env) fp) tg is bd)
    (ht : ∀ (s : Shared) (H : Hp) (Cc : Addr) (cl : List (Str × Addr)) (fp : List Addr), PTs (X.blk s H scope (compEnvC scope cl Cc X.env) fp) ifs (tT k C ft))
    (he : ∀ (s : Shared) (H : Hp) (Cc : Addr) (cl : List (Str × Addr)) (fp : List Addr), ED k C (X.blk s H scope (compEnvC scope cl Cc X.env) fp) elt fe)
    (hs : ∀ x, foldedSetIterable iter X.env x = pure x := by intro _; rfl) (his : ∀ i ∈ is, i ∈ own.map (·.2) := by decide) :
    EL k C X (.ListComp elt [⟨tg, iter, ifs, 0⟩] scope pos) (fun ρ => bnd (fi ρ) fun xs => bnd (lft (sml xs)) fun xs => compF bd ft fe xs (wipeE ρ (own.map (·.2)))) :=
  pe_imp (pe_lc hc hN hi ok hg ht he hs) fun σ H Q h => lc_pf _ his h
/-- y = [..] -/
theorem ss_lc (own : List (Str × Nat)) (i : Nat) {y : Str} {py spos : Pos} (hc : X.calm = true) (hN : X.N.Nodup) (hi : WI k C X tg iter fi) (ok : BlkOk X.N X.env.scope scope own)
    (hg : ∀ (s : Shared) (H : Hp) (Cc : Addr) (cl : List (Str × Addr)) (fp : List Addr), GT k C (X.blk s H scope (compEnvC scope cl Cc X.env) fp) tg is bd)
    (ht : ∀ (s : Shared) (H : Hp) (Cc : Addr) (cl : List (Str × Addr)) (fp : List Addr), PTs (X.blk s H scope (compEnvC scope cl Cc X.env) fp) ifs (tT k C ft))
    (he : ∀ (s : Shared) (H : Hp) (Cc : Addr) (cl : List (Str × Addr)) (fp : List Addr), ED k C (X.blk s H scope (compEnvC scope cl Cc X.env) fp) elt fe)
    (hsw : swapsWith (.ListComp elt [⟨tg, iter, ifs, 0⟩] scope pos) (some (.Name y py)) spos.line X.env = pure true)
    (hy : X.N[i]? = some y := by rfl) (hyl : X.env.scope.names.lookup y = some .local := by rfl)
    (hs : ∀ x, foldedSetIterable iter X.env x = pure x := by intro _; rfl) (his : ∀ i ∈ is, i ∈ own.map (·.2) := by decide) :
    SS k C X (.Assign [.Name y py] (.ListComp elt [⟨tg, iter, ifs, 0⟩] scope pos) spos) (fun ρ => bnd (bnd (fi ρ) fun xs => bnd (lft (sml xs)) fun xs => compF bd ft fe xs (wipeE ρ (own.map (·.2)))) fun ds => ret (.nx (ρ.set i (some (.val (.lst ds)))))) :=
  ps_imp (ps_setLc hc hN hy hyl hsw hi ok hg ht he hs) fun N σ H ⟨E0, En, H0, ρ, t, o, t', R, ev, q⟩ => by
  obtain ⟨ds, t1, e1, ev1⟩ := bnd_some ev
  obtain ⟨rfl, rfl⟩ := ret_some ev1
  refine lc_pf _ his ⟨E0, En, H0, ρ, t, ds, t', R, e1, fun H1 H1' p vs R1 g1 np n0 hp r1 => ?_⟩
  have R2 := R1.frz hp n0 (R.go.trk p np) fun j => own_lt R np
  exact q _ _ _ (R2.put (s := .val (.lst ds)) i (.lst upd_same (r1.ex (ex_new n0)))) (g1.base.trans (ex_new n0))
/-! ### dict comprehensions -/
def asS : D → Option Str
  | .str s => some s
  | _ => none
theorem asS_some {s : Str} (h : asS d = some s) : d = .str s := by
  cases d <;> first | (cases h; done) | (cases h; rfl)
def dcF {T : Type} (bd : D → Env → Option Env) (fk fv : Env → M T D) (ρ : Env) : List D → List (Str × D) → M T (List (Str × D))
  | [], acc => ret acc
  | x :: xs, acc => bnd (lft (bd x ρ)) fun ρ1 => bnd (fk ρ1) fun y => bnd (lft (asS y)) fun s => bnd (fv ρ1) fun z => dcF bd fk fv ρ xs (dput acc s z)
theorem dput_le (ks : List (Str × D)) (x : Str) (d : D) : (dput ks x d).length ≤ ks.length + 1 := by
  unfold dput
  split
  · rw [List.length_map]; omega
  · rw [List.length_append, List.length_singleton]; omega
theorem ek_dc (own : List (Str × Nat)) (hc : X.calm = true) (hN : X.N.Nodup) (hi : WI k C X tg iter fi) (ok : BlkOk X.N X.env.scope scope own)
    (hg : ∀ (s : Shared) (H : Hp) (Cc : Addr) (cl : List (Str × Addr)) (fp : List Addr), GT k C (X.blk s H scope (compEnvC scope cl Cc X.env) fp) tg is bd)
    (hk : ∀ (s : Shared) (H : Hp) (Cc : Addr) (cl : List (Str × Addr)) (fp : List Addr), ED k C (X.blk s H scope (compEnvC scope cl Cc X.env) fp) kx fk)
    (he : ∀ (s : Shared) (H : Hp) (Cc : Addr) (cl : List (Str × Addr)) (fp : List Addr), ED k C (X.blk s H scope (compEnvC scope cl Cc X.env) fp) vx fv)
    (hs : ∀ x, foldedSetIterable iter X.env x = pure x := by intro _; rfl) (his : ∀ i ∈ is, i ∈ own.map (·.2) := by decide) :
    EK k C X (.DictComp kx vx [⟨tg, iter, [], 0⟩] scope pos) (fun ρ => bnd (fi ρ) fun xs => bnd (lft (sml xs)) fun xs => dcF bd fk fv (wipeE ρ (own.map (·.2))) xs []) := by
  refine pe_imp (pe_dc hc hN hi ok hg (fun _ _ _ _ _ => pts_nil) hk he hs) fun σ H Q ⟨E0, En, H0, ρ, t, res, t', R, ev, q⟩ => ?_
  generalize hvs : own.map (·.2) = vs at ev his
  obtain ⟨xs, t1, e1, ev1⟩ := bnd_some ev
  obtain ⟨ys, t2, f2, ev2⟩ := bnd_some ev1
  obtain ⟨e2, rfl⟩ := lft_some f2
  obtain ⟨rfl, _, hz⟩ := sml_some e2
  refine ⟨E0, En, H0, ρ, t, xs, t2, R, e1, fun H1 H1' J R1 g1 jk p hp => ?_⟩
  obtain ⟨n1, n0, nm⟩ := R1.fresh hp
  refine ⟨fun i m H => m = xs.length - i ∧ i ≤ xs.length ∧ ∃ Hc t3 acc accD, Go C H1 H1' Hc H ∧ Ex Hc H ∧ C.rep t3 H ∧ Hc p = none ∧ H p = some (.dK acc) ∧ RpK k Hc accD acc ∧ acc.length ≤ i ∧ dcF bd fk fv (wipeE ρ vs) (xs.drop i) accD t3 = some (res, t'),
    ⟨xs.length, by simp, Nat.zero_le _, H1, t2, [], [], Go.own hp (by intro _ h; cases h), R1.sub.trans (ex_new hp), C.ext R1.rep (ex_new hp), n0, upd_same, .nil, Nat.le_refl _, ev2⟩, ?_⟩
  rintro i m H2 ⟨rfl, hi, Hc, t3, acc, accD, g2, s2, r2, hc0, hcp, ra, hl, e3⟩
  obtain ⟨j1, j2⟩ := jk i Hc H2 g2.base s2
  by_cases hlt : i < xs.length
  · have hd : xs.drop i = xs[i] :: xs.drop (i + 1) := List.drop_eq_getElem_cons hlt
    rw [hd] at e3
    obtain ⟨ρ3, t4, f4, e4⟩ := bnd_some e3
    obtain ⟨y1, t5, e5, e6⟩ := bnd_some e4
    obtain ⟨s1, t6, f6, e8⟩ := bnd_some e6
    obtain ⟨z1, t7, e9, e10⟩ := bnd_some e8
    obtain ⟨e7, rfl⟩ := lft_some f4
    obtain ⟨e11, rfl⟩ := lft_some f6
    have hy := asS_some e11
    subst hy
    obtain ⟨go, yl⟩ := j2 xs[i] (List.getElem?_eq_getElem hlt)
    refine .inr ⟨go, fun H => i + 1 ≤ xs.length ∧ ∃ Hc t3 acc accD', Go C H1 H1' Hc H ∧ Ex Hc H ∧ C.rep t3 H ∧ Hc p = none ∧ H p = some (.dK acc) ∧ RpK k Hc accD' acc ∧ acc.length ≤ i + 1 ∧ dcF bd fk fv (wipeE ρ vs) (xs.drop (i + 1)) accD' t3 = some (res, t'),
      fun H' w => ⟨xs.length - (i + 1), by omega, rfl, w⟩, fun x H' y => ?_⟩
    have fin : ∀ Hd H', Go C H1 H1' Hd H' → Ex Hd H' → C.rep t4 H' → Hd p = none → H' p = some (.dK acc) → Ex Hc Hd → Rp k Hd xs[i] x → tG k C is bd x (L2.wipe σ vs) H' fun σ2 H2 => L2.wipe σ2 vs = L2.wipe σ vs ∧ tYes σ2 H2 fun b H3 =>
        if b = true then tD k C fk σ2 H3 fun y H4 => tD k C fv σ2 H4 fun z H5 => ∃ kvs kk, y = kV kk ∧ H5 p = some (.dK kvs) ∧ kvs.length < sizeLine ∧ (i + 1 ≤ xs.length ∧ ∃ Hc t3 acc accD', Go C H1 H1' Hc (upd H5 p (.dK (putK kvs kk z))) ∧ Ex Hc (upd H5 p (.dK (putK kvs kk z))) ∧ C.rep t3 (upd H5 p (.dK (putK kvs kk z))) ∧ Hc p = none ∧ (upd H5 p (.dK (putK kvs kk z))) p = some (.dK acc) ∧ RpK k Hc accD' acc ∧ acc.length ≤ i + 1 ∧ dcF bd fk fv (wipeE ρ vs) (xs.drop (i + 1)) accD' t3 = some (res, t'))
        else (i + 1 ≤ xs.length ∧ ∃ Hc t3 acc accD', Go C H1 H1' Hc H3 ∧ Ex Hc H3 ∧ C.rep t3 H3 ∧ Hc p = none ∧ H3 p = some (.dK acc) ∧ RpK k Hc accD' acc ∧ acc.length ≤ i + 1 ∧ dcF bd fk fv (wipeE ρ vs) (xs.drop (i + 1)) accD' t3 = some (res, t')) := by
      intro Hd H' g3 s3 r3 hd0 hdp exd rx
      have R3 : RS k C E0 En Hd H' σ ρ t4 := R1.step g3 s3 r3
      refine ⟨E0, En, Hd, wipeE ρ vs, t4, xs[i], ρ3, R3.wipe vs, rx, e7, fun σ2 R4 ch => ⟨?_, ?_⟩⟩
      · rw [ch vs his]
        have idem : ∀ (ws : List Nat) (τ : L2.St), (∀ i ∈ ws, i ∈ vs) → L2.wipe (L2.wipe τ ws) vs = L2.wipe τ vs := by
          intro ws
          induction ws with
          | nil => intro τ _; rfl
          | cons w ws ih =>
            intro τ hw
            show L2.wipe ((L2.wipe τ ws).set w Option.none) vs = _
            rw [wipe_set (hw w List.mem_cons_self)]
            exact ih τ fun i hi => hw i (List.mem_cons_of_mem _ hi)
        exact idem vs σ fun _ h => h
      · unfold tYes
        refine iteT ⟨E0, En, Hd, ρ3, t4, .str s1, t6, R4, e5, fun H5 H5' w1 R5 g5 r5 => ?_⟩
        cases r5
        have gp5 : H5' p = some (.dK acc) := g5.act p _ hdp nm
        have h50 : H5 p = Option.none := g5.nof p (by rw [hdp]; simp) hd0
        refine ⟨E0, En, H5, ρ3, t6, z1, t7, R5, e9, fun H6 H6' w R6 g6 r6 => ?_⟩
        have gp6 : H6' p = some (.dK acc) := g6.act p _ gp5 nm
        have h60 : H6 p = Option.none := g6.nof p (by rw [gp5]; simp) h50
        exact ⟨acc, .inr s1, rfl, gp6, by omega, hlt, H6, t7, putK acc (.inr s1) w, dput accD s1 z1, ((g3.trans g5).trans g6).chg hp, R6.sub.mu h60, Cell.chg R6.rep gp6 trivial nm, h60, upd_same, (ra.ex (exd.trans (g5.base.trans g6.base))).put s1 r6,
          Nat.le_trans (length_putK _ _ _) (by omega), e10⟩
    rcases yl x H' y with ⟨rfl, r3⟩ | ⟨p2, vs2, hp2, rfl, rfl, r3⟩
    · exact fin Hc H' g2 s2 r2 hc0 hcp (Same.refl _) r3
    · have n2 : p ≠ p2 := ne_of_none hcp hp2
      have R3 : RS k C E0 En Hc H2 σ ρ t4 := R1.step g2 s2 r2
      obtain ⟨R4, g4⟩ := R3.new (.tup vs2) hp2
      exact fin _ _ (g2.trans g4) R4.sub R4.rep (by rw [upd_ne n2]; exact hc0) (by rw [upd_ne n2]; exact hcp) g4.base r3
  · have e : i = xs.length := by omega
    subst e
    rw [List.drop_length] at e3
    obtain ⟨rfl, rfl⟩ := ret_some e3
    exact .inl ⟨j1 (Nat.le_refl _), q Hc H2 p acc (R1.step g2 s2 r2) (g1.trans g2) (g1.trk p hp) hc0 hcp ra⟩
end
end MM
/-! M6 -/
namespace MM
open PySem PySem.Spec PyProof.Rows L2

/-! ## what a def promises -/
def spD {T : Type} (k : Kx) (C : Cell T) (n : Nat) (G : List D → M T D) : Sp := fun vs H Q _ => ∃ H0 ds t d t', Ex H0 H ∧ ((∀ a, C.mu a → H a ≠ none ∧ H0 a = none) ∧ ∀ a ps, H a = some (.tbl ps) → C.mu a) ∧ C.rep t H ∧ RpA k H0 ds vs ∧ ds.length = n ∧ G ds t = some (d, t') ∧
  ∀ H0' H' v, Go C H0 H H0' H' → Ex H0' H' → C.rep t' H' → Rp k H0' d v → Q v H'
/-- a body's run -/
def runD {T : Type} (n m : Nat) (F : Env → M T Out) (ds : List D) : M T D := if ds.length = n then bnd (F (ds.map (fun d => some (.val d)) ++ List.replicate m none)) fun o => match o with
  | .rt d => ret d
  | .nx _ => ret .non
  | _ => fun _ => none
  else fun _ => none
theorem rs_start {T : Type} {k : Kx} {C : Cell T} {H0 H : Hp} {t : T} {N : List Str} {ds : List D} {vs : List V} (s : Ex H0 H) (m : (∀ a, C.mu a → H a ≠ none ∧ H0 a = none) ∧ ∀ a ps, H a = some (.tbl ps) → C.mu a) (r : C.rep t H) (ra : RpA k H0 ds vs) (hl : ds.length ≤ N.length) :
    RS k C H0 H H0 H (L2.start N vs) (ds.map (fun d => some (.val d)) ++ List.replicate (N.length - ds.length) none) t where
  go := Go.refl
  sub := s
  rep := r
  mt := m.1
  tb := m.2
  len := by unfold L2.start; simp [ra.length]
  slot := fun i x sv h1 h2 => by
    by_cases hi : i < ds.length
    · rw [List.getElem?_append_left (by rw [List.length_map]; exact hi), List.getElem?_map, List.getElem?_eq_getElem hi] at h2
      cases h2
      unfold L2.start at h1
      obtain ⟨v, e, r⟩ := ra.get (List.getElem?_eq_getElem hi)
      rw [List.getElem?_append_left (by rw [List.length_map, ← ra.length]; exact hi), List.getElem?_map, e] at h1
      cases h1
      exact ⟨v, rfl, r⟩
    · rw [List.getElem?_append_right (by rw [List.length_map]; omega)] at h2
      rw [List.getElem?_replicate] at h2
      split at h2 <;> cases h2
      trivial
  own := fun i j l hi hj => by
    have no : ∀ {i}, ¬ Owns (L2.start N vs) (ds.map (fun d => some (SV.val d)) ++ List.replicate (N.length - ds.length) none) i l := fun {i} ⟨_, o⟩ => by
      by_cases hi : i < ds.length
      · rw [List.getElem?_append_left (by rw [List.length_map]; exact hi), List.getElem?_map, List.getElem?_eq_getElem hi] at o
        rcases o with ⟨_, o⟩ | ⟨_, o⟩ <;> cases o
      · rw [List.getElem?_append_right (by rw [List.length_map]; omega), List.getElem?_replicate] at o
        rcases o with ⟨_, o⟩ | ⟨_, o⟩ <;> (split at o <;> cases o)
    exact absurd hi no
section
variable {T : Type} {k : Kx} {C : Cell T} {P : Program} {w : World} {K : PySem.W.Frag} {mg : Str → Option Value} {base : Heap}
abbrev cx0 (P : Program) (w : World) (K : PySem.W.Frag) (mg : Str → Option Value) (base : Heap) (N : List Str) (x : Str) (st : Stmt) (f : Addr) (cdv : Value) (A : Around) (outer : List PySem.Env) (s : Shared) (H : Hp) (E : XK) : Cx :=
  (cxOf CX0 P w K mg base N x (defScope st) f cdv A outer s H E).nox
theorem fn_ok {x : Str} {st : Stmt} {f : Addr} {fd : FuncData} {N ps : List Str} {lv : Nat} {F : Env → M T Out} (Fd : FunD K x x (defArgs st) (defBody st) (defScope st) [] [] f fd) (S : FnScope N ps (defScope st)) (hl : ps.length ≤ N.length)
    (hb : ∀ (cdv : Value) (A : Around) (outer : List PySem.Env) (s : Shared) (H : Hp) (E : XK), Room lv (A.deeper (envOfC x (defScope st) s.heap.objs.size f cdv)) → SB k C (cx0 P w K mg base N x st f cdv A outer s H E) (defBody st) F) :
    FnOk P w K mg base CX0 (lv + 1) f fd ps (spD k C ps.length (runD ps.length (N.length - ps.length) F)) := by
  refine Fd.ok S (fun vs H Q E h => ?_) (fun cdv A outer s H vs Q E hr h => ?_)
  · obtain ⟨H0, ds, t, d, t', _, _, _, ra, hn, _⟩ := h
    rw [← ra.length, hn]
  · obtain ⟨H0, ds, t, d, t', s0, m, r, ra, hn, e, q⟩ := h
    refine ⟨_, PSs.nox (hb cdv A outer s H E hr), ?_⟩
    unfold runD at e
    rw [if_pos hn] at e
    obtain ⟨o, t1, e1, e2⟩ := bnd_some e
    have R0 := rs_start (N := N) s0 m r ra (by rw [hn]; exact hl)
    rw [hn] at R0
    refine ⟨H0, H, H0, _, t, o, t1, R0, e1, ?_⟩
    cases o with
    | rt d' =>
      obtain ⟨rfl, rfl⟩ := ret_some e2
      exact fun H0' H' v g s1 r1 rv => q H0' H' v g s1 r1 rv
    | nx ρ =>
      obtain ⟨rfl, rfl⟩ := ret_some e2
      exact fun H0' H' σ' R _ => q H0' H' .non R.go R.sub R.rep .non
    | bk ρ => cases e2
    | ct ρ => cases e2
/-- a def as it stands, with its promise -/
structure Df (P : Program) (w : World) (K : PySem.W.Frag) (mg : Str → Option Value) (base : Heap) (k : Kx) (C : Cell T) (lv : Nat) (x : Str) (n : Nat) (G : List D → M T D) : Prop where
  ex : ∃ f fd ps, FnOk P w K mg base CX0 lv f fd ps (spD k C n G) ∧ mg x = some (.ref f) ∧ PySem.W.keepIn K (.ref f) = true ∧ Binds K fd ps []
theorem spD.imp {n : Nat} {G G' : List D → M T D} (h : ∀ ds t r, ds.length = n → G' ds t = some r → G ds t = some r) : ∀ vs H Q E, spD k C n G' vs H Q E → spD k C n G vs H Q E := fun vs H Q E ⟨H0, ds, t, d, t', a, b, c, r, hn, e, q⟩ => ⟨H0, ds, t, d, t', a, b, c, r, hn, h ds t _ hn e, q⟩
theorem Df.imp {lv lv' n : Nat} {x : Str} {G G' : List D → M T D} (F : Df P w K mg base k C lv x n G) (hl : lv ≤ lv') (h : ∀ ds t r, ds.length = n → G' ds t = some r → G ds t = some r) : Df P w K mg base k C lv' x n G' := by
  obtain ⟨f, fd, ps, a, b, c, d⟩ := F.ex
  exact ⟨f, fd, ps, (a.mono hl).imp (spD.imp h), b, c, d⟩
/-- what a def of the text is, apart from its body -/
structure Ds (K : PySem.W.Frag) (mg : Str → Option Value) (x : Str) (st : Stmt) (ps : List Str) : Prop where
  ex : ∃ f fd, FunD K x x (defArgs st) (defBody st) (defScope st) [] [] f fd ∧ mg x = some (.ref f) ∧ Binds K fd ps []
theorem df_of {x : Str} {st : Stmt} {N ps : List Str} {lv : Nat} {F : Env → M T Out} (Fd : Ds K mg x st ps) (S : FnScope N ps (defScope st)) (hl : ps.length ≤ N.length)
    (hb : ∀ (f : Addr) (cdv : Value) (A : Around) (outer : List PySem.Env) (s : Shared) (H : Hp) (E : XK), Room lv (A.deeper (envOfC x (defScope st) s.heap.objs.size f cdv)) → SB k C (cx0 P w K mg base N x st f cdv A outer s H E) (defBody st) F) :
    Df P w K mg base k C (lv + 1) x ps.length (runD ps.length (N.length - ps.length) F) := by
  obtain ⟨f, fd, a, b, c⟩ := Fd.ex
  exact ⟨f, fd, ps, fn_ok a S hl (hb f), b, a.kp, c⟩
end

/-! ## calls -/
/-- one cell within another -/
structure CellLe {T : Type} (C' : Cell Unit) (C : Cell T) : Prop where
  mu : ∀ a, C'.mu a → C.mu a
  rep : ∀ t H, C.rep t H → C'.rep () H
  tb : ∀ a, C.mu a → C'.mu a ∨ ∀ t H ps, C.rep t H → H a ≠ some (.tbl ps)
  back : ∀ t H H', C.rep t H → C'.rep () H' → (∀ a o, H a = some o → ¬ C'.mu a → H' a = some o) → C.rep t H'
theorem CellLe.refl {C : Cell Unit} : CellLe C C := ⟨fun _ h => h, fun _ _ h => h, fun _ h => .inl h, fun _ _ _ _ h _ => h⟩
theorem CellLe.go {T : Type} {C' : Cell Unit} {C : Cell T} (le : CellLe C' C) {A0 A B0 B : Hp} (g : Go C' A0 A B0 B) : Go C A0 A B0 B := ⟨g.base, fun a o e n => g.act a o e fun z => n (le.mu a z), g.nof, g.trk, fun a ps e => (g.ntb a ps e).imp id (le.mu a)⟩
def callP {T : Type} (n : Nat) (G : List D → Option D) (ds : List D) : M T D := lft (if ds.length = n then G ds else none)
def pureG (G : List D → Option D) (ds : List D) : M Unit D := lft (G ds)
def callS {T : Type} (n : Nat) (G : List D → M T D) (ds : List D) : M T D := if ds.length = n then G ds else fun _ => none
section
variable {T : Type} {k : Kx} {C : Cell T} {C' : Cell Unit} {X : Cx} {e : Expr} {es : List Expr} {pos p : Pos} {x : Str} {n lv : Nat}
theorem ed_call {G : List D → M T D} {fa : Env → M T (List D)} (F : Df X.prog X.w X.K X.mg X.base k C lv x n G) (hr : Room lv X.A) (ha : EA k C X (e :: es) fa) (hg : Gl X x := by rfl) (hdb : (x == ("__debug__" : Str)) = false := by decide)
    (he : starEach (e :: es) X.env = (false, eval e X.env) :: starEach es X.env := by rfl) (hpl : (backTo pos (starEach es X.env)).any (·.1) = false := by rfl) :
    ED k C X (.Call (.Name x p) (e :: es) [] pos) (fun ρ => bnd (fa ρ) fun ds => callS n G ds) := by
  obtain ⟨f, fd, ps, a, b, c, d⟩ := F.ex
  refine pe_imp (pe_call a hr hg b c d .nil pass0 ha hdb he hpl) fun σ H Q ⟨E0, En, H0, ρ, t, r, t', R, ev, q⟩ => ?_
  obtain ⟨ds, t1, e1, e2⟩ := bnd_some ev
  unfold callS at e2
  split at e2
  · next hn =>
    refine ⟨E0, En, H0, ρ, t, ds, t1, R, e1, fun H1 H1' vs R1 g1 r1 => ⟨H1, ds, t1, r, t', R1.sub, ⟨fun a m => ⟨(R1.nomut m).2, (R1.nomut m).1⟩, R1.tb⟩, R1.rep, by rw [List.append_nil]; exact r1, hn, e2, fun H2 H2' v g2 s2 rep2 rv => ?_⟩⟩
    exact q _ _ _ (R1.step g2 s2 rep2) (g1.trans g2) rv
  · cases e2
theorem ed_callP {G : List D → Option D} {fa : Env → M T (List D)} (le : CellLe C' C) (F : Df X.prog X.w X.K X.mg X.base k C' lv x n (pureG G)) (hr : Room lv X.A) (ha : EA k C X (e :: es) fa) (hg : Gl X x := by rfl) (hdb : (x == ("__debug__" : Str)) = false := by decide)
    (he : starEach (e :: es) X.env = (false, eval e X.env) :: starEach es X.env := by rfl) (hpl : (backTo pos (starEach es X.env)).any (·.1) = false := by rfl) :
    ED k C X (.Call (.Name x p) (e :: es) [] pos) (fun ρ => bnd (fa ρ) fun ds => callP n G ds) := by
  obtain ⟨f, fd, ps, a, b, c, d⟩ := F.ex
  refine pe_imp (pe_call a hr hg b c d .nil pass0 ha hdb he hpl) fun σ H Q ⟨E0, En, H0, ρ, t, r, t', R, ev, q⟩ => ?_
  obtain ⟨ds, t1, e1, e2⟩ := bnd_some ev
  unfold callP at e2
  obtain ⟨e3, rfl⟩ := lft_some e2
  split at e3
  · next hn =>
    refine ⟨E0, En, H0, ρ, t, ds, t', R, e1, fun H1 H1' vs R1 g1 r1 => ⟨H1, ds, (), r, (), R1.sub, ⟨fun a m => ⟨(R1.nomut (le.mu a m)).2, (R1.nomut (le.mu a m)).1⟩, fun a ps e => (le.tb a (R1.tb a ps e)).elim id fun q => absurd e (q _ _ ps R1.rep)⟩, le.rep _ _ R1.rep, by rw [List.append_nil]; exact r1, hn, by unfold pureG; rw [e3]; rfl, fun H2 H2' v g2 s2 rep2 rv => ?_⟩⟩
    have g3 := le.go g2
    exact q _ _ _ (R1.step g3 s2 (le.back _ _ _ R1.rep rep2 g2.act)) (g1.trans g3) rv
  · cases e3
theorem ed_callP0 {G : List D → Option D} (le : CellLe C' C) (F : Df X.prog X.w X.K X.mg X.base k C' lv x 0 (pureG G)) (hr : Room lv X.A) (hg : Gl X x := by rfl) (hdb : (x == ("__debug__" : Str)) = false := by decide) :
    ED k C X (.Call (.Name x p) [] [] pos) (fun ρ => callP 0 G []) := by
  obtain ⟨f, fd, ps, a, b, c, d⟩ := F.ex
  refine pe_imp (pe_call0 a hr hg b c d .nil pass0 hdb) fun σ H Q ⟨E0, En, H0, ρ, t, r, t', R, ev, q⟩ => ?_
  unfold callP at ev
  obtain ⟨e3, rfl⟩ := lft_some ev
  refine ⟨H0, [], (), r, (), R.sub, ⟨fun a m => ⟨(R.nomut (le.mu a m)).2, (R.nomut (le.mu a m)).1⟩, fun a ps e => (le.tb a (R.tb a ps e)).elim id fun q => absurd e (q _ _ ps R.rep)⟩, le.rep _ _ R.rep, .nil, rfl, by unfold pureG; rw [show G [] = some r from e3]; rfl, fun H2 H2' v g2 s2 rep2 rv => ?_⟩
  have g3 := le.go g2
  exact q _ _ _ (R.step g3 s2 (le.back _ _ _ R.rep rep2 g2.act)) g3 rv
end

/-! ## a, b = x, y -/
section
variable {T : Type} {k : Kx} {C : Cell T} {E0 En H0 H H0' H' : Hp} {σ : L2.St} {ρ : Env} {t t' : T} {X : Cx} {a b c e : Expr} {pos : Pos}
/-- a value for a slot: frozen, or of one's own and new since Hs -/
def NewOk (k : Kx) (Hs H0 H : Hp) (v : V) : SV → Prop
  | .val d => Rp k H0 d v
  | .ol ds => ∃ p ws, v = .ref p ∧ Hs p = none ∧ H0 p = none ∧ H p = some (.lst ws) ∧ RpA k H0 ds ws
  | .od ds => ∃ p ws, v = .ref p ∧ Hs p = none ∧ H0 p = none ∧ H p = some (.dK ws) ∧ RpK k H0 ds ws
def tV (k : Kx) (C : Cell T) (f : Env → M T SV) : TE := fun σ H Q => ∃ E0 En H0 ρ t d t', RS k C E0 En H0 H σ ρ t ∧ f ρ t = some (d, t') ∧
  ∀ H0' H' v, RS k C E0 En H0' H' σ ρ t' → Go C H0 H H0' H' → NewOk k H H0' H' v d → Q v H'
abbrev EV (k : Kx) (C : Cell T) (X : Cx) (e : Expr) (f : Env → M T SV) : Prop := PE X e (tV k C f)
theorem ev_val {f : Env → M T D} (h : ED k C X e f) : EV k C X e (fun ρ => bnd (f ρ) fun d => ret (.val d)) := pe_imp h fun σ H Q ⟨E0, En, H0, ρ, t, r, t', R, ev, q⟩ => by
  obtain ⟨d, t1, e1, e2⟩ := bnd_some ev
  obtain ⟨rfl, rfl⟩ := ret_some e2
  exact ⟨E0, En, H0, ρ, t, d, t', R, e1, fun H1 H1' v R1 g1 r1 => q _ _ _ R1 g1 r1⟩
theorem ev_L {f : Env → M T (List D)} (h : EL k C X e f) : EV k C X e (fun ρ => bnd (f ρ) fun d => ret (.ol d)) := pe_imp h fun σ H Q ⟨E0, En, H0, ρ, t, r, t', R, ev, q⟩ => by
  obtain ⟨d, t1, e1, e2⟩ := bnd_some ev
  obtain ⟨rfl, rfl⟩ := ret_some e2
  exact ⟨E0, En, H0, ρ, t, d, t', R, e1, fun H1 H1' p vs R1 g1 np n0 hp r1 => q _ _ _ R1 g1 ⟨p, vs, rfl, np, n0, hp, r1⟩⟩
theorem ev_K {f : Env → M T (List (Str × D))} (h : EK k C X e f) : EV k C X e (fun ρ => bnd (f ρ) fun d => ret (.od d)) := pe_imp h fun σ H Q ⟨E0, En, H0, ρ, t, r, t', R, ev, q⟩ => by
  obtain ⟨d, t1, e1, e2⟩ := bnd_some ev
  obtain ⟨rfl, rfl⟩ := ret_some e2
  exact ⟨E0, En, H0, ρ, t, d, t', R, e1, fun H1 H1' p vs R1 g1 np n0 hp r1 => q _ _ _ R1 g1 ⟨p, vs, rfl, np, n0, hp, r1⟩⟩
theorem NewOk.go {Hs : Hp} {v : V} {s : SV} (R : RS k C E0 En H0 H σ ρ t) (hs : ∀ p, Hs p = none → En p = none) (h : NewOk k Hs H0 H v s) (g : Go C H0 H H0' H') : NewOk k Hs H0' H' v s := by
  cases s with
  | val d => exact Rp.ex g.base h
  | ol ds =>
    obtain ⟨p, ws, e, a, b, c, r⟩ := h
    exact ⟨p, ws, e, a, g.nof p (by rw [c]; simp) b, g.act p _ c (fun z => (R.mt p z).1 (hs p a)), r.ex g.base⟩
  | od ds =>
    obtain ⟨p, ws, e, a, b, c, r⟩ := h
    exact ⟨p, ws, e, a, g.nof p (by rw [c]; simp) b, g.act p _ c (fun z => (R.mt p z).1 (hs p a)), r.ex g.base⟩
theorem NewOk.old {Hs Hr : Hp} {v : V} {s : SV} (h : NewOk k Hs H0 H v s) (hs : ∀ p, Hs p = none → Hr p = none) : NewOk k Hr H0 H v s := by
  cases s with
  | val d => exact h
  | ol ds => obtain ⟨p, ws, e, a, b, c, r⟩ := h; exact ⟨p, ws, e, hs p a, b, c, r⟩
  | od ds => obtain ⟨p, ws, e, a, b, c, r⟩ := h; exact ⟨p, ws, e, hs p a, b, c, r⟩
/-- it comes to a slot -/
theorem NewOk.put {Hs : Hp} {v : V} {s : SV} (h : NewOk k Hs H0 H v s) (hs : ∀ p, Hs p = none → En p = none) (no : ∀ p, v = .ref p → Hs p = none → ∀ j, ¬ Owns σ ρ j p) : PutOk k En H0 H σ ρ v s := by
  cases s with
  | val d => exact h
  | ol ds => obtain ⟨p, ws, e, a, b, c, r⟩ := h; exact ⟨p, ws, e, hs p a, b, c, r, no p e a⟩
  | od ds => obtain ⟨p, ws, e, a, b, c, r⟩ := h; exact ⟨p, ws, e, hs p a, b, c, r, no p e a⟩
/-- what an own value's address is -/
theorem NewOk.at {Hs : Hp} {v : V} {s : SV} (h : NewOk k Hs H0 H v s) (o : (∃ ds, s = .ol ds) ∨ ∃ ks, s = .od ks) : ∃ p u, v = .ref p ∧ Hs p = none ∧ H p = some u := by
  rcases o with ⟨ds, rfl⟩ | ⟨ds, rfl⟩
  · obtain ⟨p, ws, e, a, b, c, r⟩ := h; exact ⟨p, _, e, a, c⟩
  · obtain ⟨p, ws, e, a, b, c, r⟩ := h; exact ⟨p, _, e, a, c⟩
theorem ss_par2 (i j : Nat) {x y : Str} {px py pt : Pos} {kt k2 pt2} {fa fb : Env → M T SV} (hc : X.calm = true) (hN : X.N.Nodup) (ha : EV k C X a fa) (hb : EV k C X b fb) (hij : i ≠ j := by decide)
    (hi : X.N[i]? = some x := by rfl) (hj : X.N[j]? = some y := by rfl)
    (hx : X.env.scope.names.lookup x = some .local := by rfl) (hy : X.env.scope.names.lookup y = some .local := by rfl)
    (hw : swappedStores [.Tuple [.Name x px, .Name y py] kt pt] (.Tuple [a, b] k2 pt2) X.env = pure (some [x, y]) := by rfl)
    (hs : swapsWithSole [.Tuple [.Name x px, .Name y py] kt pt] (.Tuple [a, b] k2 pt2) pos.line X.env = pure false := by rfl)
    (hs1 : starEach (a :: [b]) X.env = (false, eval a X.env) :: starEach [b] X.env := by rfl) (hs2 : starEach (b :: []) X.env = (false, eval b X.env) :: starEach [] X.env := by rfl) :
    SS k C X (.Assign [.Tuple [.Name x px, .Name y py] kt pt] (.Tuple [a, b] k2 pt2) pos) (fun ρ => bnd (fa ρ) fun s1 => bnd (fb ρ) fun s2 => ret (.nx ((ρ.set i (some s1)).set j (some s2)))) :=
  ps_imp (ps_par hc hN hi hj hij hx hy (pa_cons ha (pa_cons hb pa_nil hs2) hs1) hw hs) fun N σ H ⟨E0, En, H0, ρ, t, o, t', R, ev, q⟩ => by
  obtain ⟨s1, t1, e1, ev1⟩ := bnd_some ev
  obtain ⟨s2, t2, e2, ev2⟩ := bnd_some ev1
  obtain ⟨rfl, rfl⟩ := ret_some ev2
  refine ⟨E0, En, H0, ρ, t, s1, t1, R, e1, fun H1 H1' v1 R1 g1 n1 => ⟨E0, En, H1, ρ, t1, s2, _, R1, e2, fun H2 H2' v2 R2 g2 n2 => ⟨v1, v2, rfl, ?_⟩⟩⟩
  have n1' := n1.go R1 (fun p h => R.go.trk p h) g2
  have old : ∀ j p, H p = none → ¬ Owns σ ρ j p := fun j p h => own_lt R h
  have R3 := R2.put i (n1'.put (fun p h => R.go.trk p h) fun p _ h j => old j p h)
  have R4 := R3.put j (n2.put (fun p h => R1.go.trk p h) fun p e h m o => by
    rcases owns_set o with ⟨_, ev, es⟩ | ⟨_, o⟩
    · obtain ⟨p', u, e', _, hu⟩ := n1.at es
      rw [ev] at e'
      cases e'
      rw [h] at hu
      cases hu
    · exact old m p (g1.trk p h) o)
  exact q _ _ _ R4 (g1.trans g2).base
theorem ss_par3 (i j m : Nat) {x y z : Str} {px py pz pt : Pos} {kt k2 pt2} {fa fb fc : Env → M T SV} (hc : X.calm = true) (hN : X.N.Nodup) (ha : EV k C X a fa) (hb : EV k C X b fb) (hc3 : EV k C X c fc) (hij : i ≠ j := by decide) (him : i ≠ m := by decide) (hjm : j ≠ m := by decide)
    (hi : X.N[i]? = some x := by rfl) (hj : X.N[j]? = some y := by rfl) (hm : X.N[m]? = some z := by rfl)
    (hx : X.env.scope.names.lookup x = some .local := by rfl) (hy : X.env.scope.names.lookup y = some .local := by rfl) (hz : X.env.scope.names.lookup z = some .local := by rfl)
    (hw : swappedStores [.Tuple [.Name x px, .Name y py, .Name z pz] kt pt] (.Tuple [a, b, c] k2 pt2) X.env = pure (some [x, y, z]) := by rfl)
    (hs : swapsWithSole [.Tuple [.Name x px, .Name y py, .Name z pz] kt pt] (.Tuple [a, b, c] k2 pt2) pos.line X.env = pure false := by rfl)
    (hs1 : starEach (a :: [b, c]) X.env = (false, eval a X.env) :: starEach [b, c] X.env := by rfl) (hs2 : starEach (b :: [c]) X.env = (false, eval b X.env) :: starEach [c] X.env := by rfl) (hs3 : starEach (c :: []) X.env = (false, eval c X.env) :: starEach [] X.env := by rfl) :
    SS k C X (.Assign [.Tuple [.Name x px, .Name y py, .Name z pz] kt pt] (.Tuple [a, b, c] k2 pt2) pos) (fun ρ => bnd (fa ρ) fun s1 => bnd (fb ρ) fun s2 => bnd (fc ρ) fun s3 => ret (.nx (((ρ.set i (some s1)).set j (some s2)).set m (some s3)))) :=
  ps_imp (L2.ps_par3 hc hN hi hj hm hij him hjm hx hy hz (pa_cons ha (pa_cons hb (pa_cons hc3 pa_nil hs3) hs2) hs1) hw hs) fun N σ H ⟨E0, En, H0, ρ, t, o, t', R, ev, q⟩ => by
  obtain ⟨s1, t1, e1, ev1⟩ := bnd_some ev
  obtain ⟨s2, t2, e2, ev2⟩ := bnd_some ev1
  obtain ⟨s3, t3, e3, ev3⟩ := bnd_some ev2
  obtain ⟨rfl, rfl⟩ := ret_some ev3
  refine ⟨E0, En, H0, ρ, t, s1, t1, R, e1, fun H1 H1' v1 R1 g1 n1 => ⟨E0, En, H1, ρ, t1, s2, t2, R1, e2, fun H2 H2' v2 R2 g2 n2 => ⟨E0, En, H2, ρ, t2, s3, _, R2, e3, fun H3 H3' v3 R3 g3 n3 => ⟨v1, v2, v3, rfl, ?_⟩⟩⟩⟩
  have n1' := n1.go R1 (fun p h => R.go.trk p h) (g2.trans g3)
  have n1m := n1.go R1 (fun p h => R.go.trk p h) g2
  have n2' := n2.go R2 (fun p h => R1.go.trk p h) g3
  have old : ∀ j p, H p = none → ¬ Owns σ ρ j p := fun j p h => own_lt R h
  have R4 := R3.put i (n1'.put (fun p h => R.go.trk p h) fun p _ h j => old j p h)
  have R5 := R4.put j (n2'.put (fun p h => R1.go.trk p h) fun p e h m o => by
    rcases owns_set o with ⟨_, ev, es⟩ | ⟨_, o⟩
    · obtain ⟨p', u, e', _, hu⟩ := n1.at es
      rw [ev] at e'
      cases e'
      rw [h] at hu
      cases hu
    · exact old m p (g1.trk p h) o)
  have R6 := R5.put m (n3.put (fun p h => R2.go.trk p h) fun p e h m o => by
    rcases owns_set o with ⟨_, ev, es⟩ | ⟨_, o⟩
    · obtain ⟨p', u, e', _, hu⟩ := n2.at es
      rw [ev] at e'
      cases e'
      rw [h] at hu
      cases hu
    · rcases owns_set o with ⟨_, ev, es⟩ | ⟨_, o⟩
      · obtain ⟨p', u, e', _, hu⟩ := n1m.at es
        rw [ev] at e'
        cases e'
        rw [h] at hu
        cases hu
      · exact old m p (g1.trk p (g2.trk p h)) o)
  exact q _ _ _ R6 (g1.trans (g2.trans g3)).base
end
end MM
/-! M7 -/
namespace MM
open PySem PySem.Spec PyProof.Rows L2
section
variable {T : Type} {k : Kx} {C : Cell T} {E0 En H0 H H0' H' : Hp} {σ : L2.St} {ρ : Env} {t t' : T} {d : D} {v : V} {ds : List D} {vs : List V} {ks : List (Str × D)} {kvs : List (Key × V)} {l : Addr}
variable {X : Cx} {a b c e : Expr} {es : List Expr} {pos : Pos} {fa fb fc : Env → M T D}

/-! ### len -/
def lenD : D → Option D
  | .str s => if s.length ≤ 100000 then some (.int s.length) else none
  | .lst ds => some (.int ds.length)
  | .tup ds => some (.int ds.length)
  | _ => none
theorem c_len {K : PySem.W.Frag} : Call1 k C (fun xs H Q => ∃ x n, xs = [x] ∧ LenV K x H n ∧ Q (.int n) H) lenD := by
  intro E0 En H0 H σ ρ t x d v Q R r e q
  unfold lenD at e
  split at e
  · next s =>
    split at e
    · next h =>
      cases e
      cases (show Rp k H0 (.str s) v from r)
      exact ⟨_, s.length, rfl, ⟨Nat.le_trans h (by decide), rfl⟩, q _ (.int _)⟩
    · cases e
  · next ds =>
    cases e
    obtain ⟨l, vs, rfl, h1, _, r2⟩ := r
    refine ⟨_, vs.length, rfl, .inl ⟨vs, .inl (.inl h1), rfl⟩, ?_⟩
    rw [← r2.length]
    exact q _ (.int _)
  · next ds =>
    cases e
    obtain ⟨l, vs, rfl, h1, r2⟩ := r.seq R (ds := ds) rfl
    refine ⟨_, vs.length, rfl, ?_, ?_⟩
    · rcases h1 with h1 | h1
      · exact .inl ⟨vs, .inl (.inl h1), rfl⟩
      · exact .inr ⟨vs, .inl h1, rfl⟩
    · rw [← r2.length]
      exact q _ (.int _)
  · cases e

/-! ### all -/
def bools : List D → Option (List Bool)
  | [] => some []
  | .bl b :: ds => (bools ds).map (b :: ·)
  | _ => none
theorem bools_vals : ∀ {ds : List D} {vs : List V} {bs : List Bool}, RpA k H ds vs → bools ds = some bs → vs = bs.map V.bl
  | [], _, _, .nil, e => by cases e; rfl
  | d :: ds, _, xs, .cons h r, e => by
    cases h <;> first | (unfold bools at e; cases e; done) | skip
    next x vs =>
      unfold bools at e
      cases q : bools ds with
      | none => rw [q] at e; cases e
      | some ys =>
        rw [q] at e
        cases e
        rw [bools_vals r q]
        rfl
def allD : D → Option D
  | .lst ds => (bools ds).map fun bs => .bl (bs.all id)
  | _ => none
theorem c_all {K : PySem.W.Frag} : Call1 k C (rAll K) allD := by
  intro E0 En H0 H σ ρ t x d v Q R r e q
  unfold allD at e
  split at e
  · next ds =>
    cases h : bools ds with
    | none => rw [h] at e; cases e
    | some bs =>
      rw [h] at e
      cases e
      obtain ⟨l, vs, rfl, h1, _, r2⟩ := r
      have ev := bools_vals r2 h
      subst ev
      exact ⟨l, bs, rfl, .inl (.inl h1), q _ (.bl _)⟩
  · cases e

/-! ### abs, int -/
def absD : D → Option D
  | .int i => some (.int (if i < 0 then -i else i))
  | _ => none
theorem c_abs : Call1 k C (fun xs H Q => ∃ i, xs = [.int i] ∧ Q (.int (if i < 0 then -i else i)) H) absD := by
  intro E0 En H0 H σ ρ t x d v Q R r e q
  unfold absD at e
  split at e
  · next i =>
    cases e
    cases (show Rp k H0 (.int i) v from r)
    exact ⟨i, rfl, q _ (.int _)⟩
  · cases e
def intD : D → Option D
  | .int i => some (.int i)
  | .bl b => some (.int (if b then 1 else 0))
  | _ => none
theorem c_int : Call1 k C (fun xs H Q => (∃ i, xs = [.int i] ∧ Q (.int i) H) ∨ ∃ k, xs = [.bl k] ∧ Q (.int (if k then 1 else 0)) H) intD := by
  intro E0 En H0 H σ ρ t x d v Q R r e q
  unfold intD at e
  split at e
  · next i =>
    cases e
    cases (show Rp k H0 (.int i) v from r)
    exact .inl ⟨i, rfl, q _ (.int _)⟩
  · next i =>
    cases e
    cases (show Rp k H0 (.bl i) v from r)
    exact .inr ⟨i, rfl, q _ (.int _)⟩
  · cases e

/-! ### tuple(xs) of a list, list(xs) -/
def CallT (k : Kx) (C : Cell T) (r : List V → Hp → VK → Prop) (g : D → Option (List D)) : Prop := ∀ (E0 En H0 H : Hp) (σ : L2.St) (ρ : Env) (t : T) (x : D) (ds : List D) (v : V) (Q : VK), RS k C E0 En H0 H σ ρ t → Rd1 k C H0 H x v → g x = some ds → (∀ p o vs, H p = none → Nd o → RpA k H0 ds vs → Q (.ref p) (upd H p (.frz o (.tup vs)))) → r [v] H Q
variable {x : Str} {p : Pos} {r : List V → Hp → VK → Prop}
theorem cT_pf {g : D → Option (List D)} {Q : VK} (ok : CallT k C r g) (h : tD k C (fun ρ => bnd (fa ρ) fun x => bnd (lft (g x)) fun ds => ret (.tup ds)) σ H Q) : tCB r (tA1 k C fa) σ H Q := by
  obtain ⟨E0, En, H0, ρ, t, d, t', R, ev, q⟩ := h
  obtain ⟨x, t1, e1, ev1⟩ := bnd_some ev
  obtain ⟨y, t2, e2, ev2⟩ := bnd_some ev1
  obtain ⟨rfl, rfl⟩ := ret_some ev2
  obtain ⟨e3, rfl⟩ := lft_some e2
  refine ⟨E0, En, H0, ρ, t, x, _, R, e1, fun H1 H1' v R1 g1 r1 => ok _ _ _ _ _ _ _ _ _ _ _ R1 r1 e3 fun p ob vs hp hn hv => ?_⟩
  obtain ⟨R2, g2⟩ := R1.new (.frz ob (.tup vs)) hp
  exact q _ _ _ R2 (g1.trans g2) (.tup upd_same hn (hv.ex g2.base))
theorem ed_tt {id : String} {g : D → Option (List D)} (hc : CallR X (.type id) r) (ok : CallT k C r g) (hm : X.mg x = none) (hv : bootBuiltins x = some (.type id)) (ha : EB k C X a fa) (hg : Gl X x := by rfl) (hn : x ≠ "__name__" := by decide)
    (hdb : (x == ("__debug__" : Str)) = false := by decide) (he : starEach [a] X.env = (false, eval a X.env) :: starEach [] X.env := by rfl) : ED k C X (.Call (.Name x p) [a] [] pos) (fun ρ => bnd (fa ρ) fun x => bnd (lft (g x)) fun ds => ret (.tup ds)) :=
  pe_imp (pe_callTy hc hg hm hv (ea_one ha he) hn hdb he (by first | rfl | simp [starEach, backTo])) fun _ _ _ h => cT_pf ok h
def lstD : D → Option (List D)
  | .lst ds => some ds
  | _ => none
theorem c_tuple {K : PySem.W.Frag} : CallT k C (fun xs H Q => ∃ p ys, xs = [.ref p] ∧ SqL K H p ys ∧ ∀ l o, H l = none → Nd o → Q (.ref l) (upd H l (.frz o (.tup ys)))) lstD := by
  intro E0 En H0 H σ ρ t x ds v Q R r e q
  unfold lstD at e
  split at e
  · next ds =>
    cases e
    obtain ⟨l, vs, rfl, h1, _, r2⟩ := r
    exact ⟨l, vs, rfl, .inl (.inl h1), fun p ob hp hn => q p ob vs hp hn r2⟩
  · cases e
theorem c_list {K : PySem.W.Frag} : CallL k C (fun xs H Q => ∃ p ys, xs = [.ref p] ∧ (SqL K H p ys ∨ SqT K H p ys) ∧ ∀ l, H l = none → Q (.ref l) (upd H l (.lst ys))) seqOf := by
  intro E0 En H0 H σ ρ t x ds v Q R r e q
  obtain ⟨l, vs, rfl, h1, r2⟩ := r.seq R e
  exact ⟨l, vs, rfl, h1.imp (fun h => .inl (.inl h)) (fun h => .inl h), fun p hp => q p vs hp r2⟩
/-! ### dict(d) -/
def dctD : D → Option (List (Str × D))
  | .dct ks => some ks
  | _ => none
theorem c_dictD : CallK k C (fun xs H Q => ∃ (a : Addr) (kvs : List (Key × V)), xs = [.ref a] ∧ Rd H a (.dK kvs) ∧ ∀ p, H p = none → Q (.ref p) (upd H p (.dK kvs))) dctD := by
  intro E0 En H0 H σ ρ t x ds v Q R r e q
  unfold dctD at e
  split at e
  · next ds =>
    cases e
    obtain ⟨l, vs, rfl, h1, _, r2⟩ := r
    exact ⟨l, vs, rfl, .inl h1, fun p hp => q p vs hp r2⟩
  · cases e
/-! ### dict(pairs) -/
def pairD : D → Option (Str × D)
  | .tup [.str s, d] => some (s, d)
  | _ => none
def pairsD : List D → Option (List (Str × D))
  | [] => some []
  | d :: ds => match pairD d, pairsD ds with
    | some p, some ps => some (p :: ps)
    | _, _ => none
def mergeD : List (Str × D) → List (Str × D) → List (Str × D)
  | acc, [] => acc
  | acc, (s, d) :: r => mergeD (dput acc s d) r
theorem pairD_some {d : D} {p : Str × D} (h : pairD d = some p) : d = .tup [.str p.1, p.2] := by
  unfold pairD at h
  split at h
  · cases h; rfl
  · cases h
theorem RpK.merge : ∀ {ks : List (Str × D)} {kvs : List (Key × V)} {acc : List (Str × D)} {av : List (Key × V)}, RpK k H acc av → RpK k H ks kvs → RpK k H (mergeD acc ks) (mergeK av kvs)
  | _, _, _, _, ra, .nil => ra
  | _, _, _, _, ra, .cons (x := x) h r => (ra.put x h).merge r
theorem pairs_rel {K : PySem.W.Frag} (R : Ex H0 H) : ∀ {ds : List D} {vs : List V} {ps : List (Str × D)}, RpA k H0 ds vs → pairsD ds = some ps → ∃ as kvs, vs = as.map V.ref ∧ Paired (fun p (kv : Key × V) => SqT K H p [kV kv.1, kv.2]) as kvs ∧ RpK k H0 ps kvs
  | [], _, _, .nil, e => by cases e; exact ⟨[], [], rfl, .nil, .nil⟩
  | d :: ds, _, ps, .cons h r, e => by
    unfold pairsD at e
    split at e
    · next p ps' e1 e2 =>
      cases e
      obtain ⟨as, kvs, rfl, h2, h3⟩ := pairs_rel R r e2
      have ed := pairD_some e1
      subst ed
      cases h with
      | tup ha hn ra =>
        next a' ob vs' =>
        cases ra with
        | cons rs ra =>
          cases ra with
          | cons rd ra =>
            cases ra
            cases rs
            exact ⟨a' :: as, (.inr p.1, _) :: kvs, rfl, .cons (.inl (.inr ⟨_, R _ _ ha⟩)) h2, .cons rd h3⟩
    · cases e
def lpD : D → Option (List (Str × D))
  | .lst ds => (pairsD ds).map (mergeD [])
  | _ => none
theorem c_dictP {K : PySem.W.Frag} : CallK k C (fun xs H Q => ∃ (a : Addr) (ps : List Addr) (kvs : List (Key × V)), xs = [.ref a] ∧ SqL K H a (ps.map V.ref) ∧ Paired (fun p kv => SqT K H p [kV kv.1, kv.2]) ps kvs ∧
    ∀ p, H p = none → Q (.ref p) (upd H p (.dK (mergeK [] kvs)))) lpD := by
  intro E0 En H0 H σ ρ t x ds v Q R r e q
  unfold lpD at e
  split at e
  · next ds =>
    cases h : pairsD ds with
    | none => rw [h] at e; cases e
    | some ps =>
      rw [h] at e
      cases e
      obtain ⟨l, vs, rfl, h1, _, r2⟩ := r
      obtain ⟨as, kvs, rfl, h2, h3⟩ := pairs_rel (K := K) R.sub r2 h
      exact ⟨l, as, kvs, rfl, .inl (.inl h1), h2, fun p hp => q p _ hp (RpK.merge .nil h3)⟩
  · cases e
/-! ### list.index -/
def idxOf (s : Str) : List Str → Option Nat
  | [] => none
  | y :: ys => if y = s then some 0 else (idxOf s ys).map (· + 1)
theorem idxOf_some {s : Str} : ∀ {ys : List Str} {j : Nat}, idxOf s ys = some j → ys[j]? = some s ∧ ∀ m, m < j → ys[m]? ≠ some s
  | [], _, h => by cases h
  | y :: ys, j, h => by
    unfold idxOf at h
    split at h
    · next e => cases h; subst e; exact ⟨rfl, fun m hm => absurd hm (Nat.not_lt_zero m)⟩
    · next e =>
      cases q : idxOf s ys with
      | none => rw [q] at h; cases h
      | some i =>
        rw [q] at h
        cases h
        obtain ⟨h1, h2⟩ := idxOf_some q
        refine ⟨h1, fun m hm => ?_⟩
        cases m with
        | zero => simpa using e
        | succ m => simpa using h2 m (Nat.lt_of_succ_lt_succ hm)
def indexD : D → D → Option D
  | .lst ds, .str s => match txts ds with
    | some ys => (idxOf s ys).map fun (j : Nat) => D.int j
    | none => none
  | _, _ => none
theorem ed_index {apos cpos : Pos} (ha : EB k C X a fa) (hb : EB k C X b fb)
    (hbase : attributeBase a "index" X.env (eval a X.env) = eval a X.env := by rfl)
    (hfew : ((backTo cpos (starEach [b] X.env)).all (fun x => !x.1) && (backToKw cpos (keywordEach [] X.env)).all (fun x => x.1.isSome)
      && decide (([b] : List Expr).length + ([] : List Keyword).length + (if ([] : List Keyword).isEmpty then 0 else 1) < 30)) = true := by rfl)
    (hline : (apos.endLine == cpos.line) = true := by rfl) (hst : starEach [b] X.env = (false, eval b X.env) :: starEach [] X.env := by rfl) :
    ED k C X (.Call (.Attribute a "index" apos) [b] [] cpos) (fun ρ => bnd (fa ρ) fun x => bnd (fb ρ) fun y => lft (indexD x y)) :=
  pe_imp (pe_bm PySem.F.plainAttrs_list PySem.F.slot_list_index PySem.F.type_list_index mt_index ha (ea_one hb hst) hbase hfew hline hst (by first | rfl | simp [starEach, backTo])) fun σ H Q ⟨E0, En, H0, ρ, t, d, t', R, ev, q⟩ => by
  obtain ⟨x, t1, e1, ev1⟩ := bnd_some ev
  obtain ⟨y, t2, e2, ev2⟩ := bnd_some ev1
  obtain ⟨e3, rfl⟩ := lft_some ev2
  refine ⟨E0, En, H0, ρ, t, x, t1, R, e1, fun H1 H1' v R1 g1 r1 => ?_⟩
  unfold indexD at e3
  split at e3
  · next ds s =>
    split at e3
    · next ys hy =>
      cases hj : idxOf s ys with
      | none => rw [hj] at e3; cases e3
      | some j =>
        rw [hj] at e3
        cases e3
        obtain ⟨l, vs, rfl, h1, nm, r⟩ := id r1
        refine ⟨.inl ⟨rfl, vs, .inl (.inl h1)⟩, E0, En, H1, ρ, t1, _, t', R1, e2, fun H2 H2' w R2 g2 r2 => ?_⟩
        cases (show Rp k H2 (.str s) w from r2)
        obtain ⟨l', vs', e', h2, _, r'⟩ := r1.go g2
        cases e'
        have ev := strs_vals r' hy
        subst ev
        obtain ⟨h3, h4⟩ := idxOf_some hj
        refine ⟨l, ys.map V.str, .str s, j, .str s, rfl, rfl, .inl (.inl h2), rfl, flat_strs ys, by rw [List.getElem?_map, h3]; rfl, by simp [eqV], fun m z hm hz => ?_, q _ _ _ R2 (g1.trans g2) (.int _)⟩
        rw [List.getElem?_map] at hz
        cases hy2 : ys[m]? with
        | none => rw [hy2] at hz; cases hz
        | some y' =>
          rw [hy2] at hz
          cases hz
          have : y' ≠ s := fun z => h4 m hm (by rw [hy2, z])
          simp [eqV, this]
    · cases e3
  · cases e3
end
end MM
/-! M8 -/
namespace MM
open PySem PySem.Spec PyProof.Rows L2

/-! ## slices with a step, of tuples -/
def stepOf {α : Type} (xs : List α) (lo : Option Int) (st : Int) : List α :=
  let p := Builtin.Slice.sliceAdjust lo none st (xs.length : Int)
  (List.range (Builtin.Slice.slicePlaces p.1 p.2 st)).filterMap fun (m : Nat) => xs[(p.1 + (m : Int) * st).toNat]?
section
variable {prog : Program} {w : World} {A : Around} {E : Value → Shared → Prop} {s : Shared}
theorem applied_step {sl : Addr} {vl vu vk : Value} {lo hi : Option Int} {st : Int} {n : Nat} {Q : Int × Int × Nat → Shared → Prop} (hs : s.heap.IsSliceOf sl vl vu vk) (pl : IsPart vl lo) (pu : IsPart vu hi) (pk : IsPart vk (some st)) (h0 : (st == 0) = false)
    (h : Q ((Builtin.Slice.sliceAdjust lo hi st (n : Int)).1, st, Builtin.Slice.slicePlaces (Builtin.Slice.sliceAdjust lo hi st (n : Int)).1 (Builtin.Slice.sliceAdjust lo hi st (n : Int)).2 st) s) :
    wpAny (model prog w) A (Builtin.Slice.sliceApplied (.ref sl) (pure (n : Int))) Q E s := by
  obtain ⟨os, hos, hcs, hds⟩ := id hs
  unfold Builtin.Slice.sliceApplied Builtin.Slice.sliceFields
  refine wpAny_bind (wpAny_bind (wpAny_field hos hds (x := vl) rfl (wpAny_bind (wpAny_field hos hds (x := vu) rfl (wpAny_bind (wpAny_field hos hds (x := vk) rfl (wpAny_pure ?_)))))))
  refine wpAny_bind (HT.slicePart_ pk ?_)
  show wpAny _ _ (if (st == 0) = true then _ else _) _ _ s
  rw [if_neg (by rw [h0]; exact Bool.false_ne_true)]
  refine wpAny_bind (HT.slicePart_ pl (wpAny_bind (HT.slicePart_ pu (wpAny_bind (wpAny_pure ?_)))))
  exact wpAny_pure h
theorem getItem_tuple_step {t sl : Addr} {items : Array Value} {vl vk : Value} {lo : Option Int} {st : Int} {Q : Value → Shared → Prop} (ht : IsTup s.heap t items) (hs : s.heap.IsSliceOf sl vl .none vk) (pl : IsPart vl lo) (pk : IsPart vk (some st)) (h0 : (st == 0) = false) (h1 : (st == 1) = false)
    (h : Q (.ref s.heap.objs.size) { s with heap := s.heap.push { cls := .type "tuple", data := .seq (stepOf items.toList lo st).toArray } })
    (hsz : (stepOf items.toList lo st).length ≤ sizeLine) : wpAny (model prog w) A (getItem (.ref t) (.ref sl)) Q E s := by
  have htake : sizeOk (.seq (stepOf items.toList lo st).toArray) := by
    show (stepOf items.toList lo st).toArray.size ≤ sizeLine
    rw [List.size_toArray]
    exact hsz
  have isSl : s.TypeIs (.ref sl) "slice" := hs.elim fun o q => ⟨o, q.1, q.2.1⟩
  unfold getItem
  refine wpAny_holding (wpAny_bind (wpAny_sequenceKey ht.typeIs (by decide) ?_))
  refine wpAny_bind (wpAny_callSpecial?_slot (name := Str.ofString "__getitem__") ht.typeIs PyProof.Rows.slot_tuple_getitem (wpAny_call_entry PyProof.Rows.slot_tuple_getitem ht.typeIs entry_tuple_getitem ?_ (args_tuple_getitem _ _)))
  show wpAny _ _ (Builtin.Tuple.tupleItemsOf (.ref t) >>= _) _ _ s
  refine wpAny_bind (tupleItemsOf_ ht (wpAny_bind (wpAny_typeOf isSl ?_)))
  rw [if_pos (by decide)]
  refine wpAny_bind (applied_step hs pl .none pk h0 ?_)
  show wpAny _ _ (if ((Builtin.Slice.sliceAdjust lo none st (items.size : Int)).1 == 0 && st == 1 && _ == items.size) = true then _ else _) _ _ s
  rw [if_neg (by rw [h1, Bool.and_false, Bool.false_and]; exact Bool.false_ne_true)]
  have e : ((List.range (Builtin.Slice.slicePlaces (Builtin.Slice.sliceAdjust lo none st (items.size : Int)).1 (Builtin.Slice.sliceAdjust lo none st (items.size : Int)).2 st)).filterMap fun (m : Nat) => items[((Builtin.Slice.sliceAdjust lo none st (items.size : Int)).1 + (m : Int) * st).toNat]?) = stepOf items.toList lo st := by
    unfold stepOf
    rw [Array.length_toList]
    congr 1
    funext m
    rw [Array.getElem?_toList]
  rw [e]
  exact wpAny_bind (m := Builtin.Tuple.tupleExact _) (wpAny_newObj_type (wpAny_pure ⟨_, rfl, wpAny_pure h⟩) htake)
end
theorem vals_fm {α : Type} (f : α → Nat) : ∀ (is : List α) {vs : List V} {us : List Value}, Vals vs us → Vals (is.filterMap fun m => vs[f m]?) (is.filterMap fun m => us[f m]?)
  | [], _, _, _ => .nil
  | i :: is, vs, us, r => by
    have ih := vals_fm f is r
    rw [List.filterMap_cons, List.filterMap_cons]
    cases h : vs[f i]? with
    | none =>
      have : us[f i]? = none := by
        rw [List.getElem?_eq_none_iff] at h ⊢
        rw [← r.length]; exact h
      rw [this]
      exact ih
    | some v =>
      obtain ⟨u, h1, h2⟩ := r.get h
      rw [h1]
      exact .cons h2 ih
theorem Vals.step {vs : List V} {us : List Value} (r : Vals vs us) (lo : Option Int) (st : Int) : Vals (stepOf vs lo st) (stepOf us lo st) := by
  unfold stepOf
  rw [r.length]
  exact vals_fm _ _ r
theorem RpA.fm {α : Type} {k : Kx} {H : Hp} (f : α → Nat) : ∀ (is : List α) {ds : List D} {vs : List V}, RpA k H ds vs → RpA k H (is.filterMap fun m => ds[f m]?) (is.filterMap fun m => vs[f m]?)
  | [], _, _, _ => .nil
  | i :: is, ds, vs, r => by
    have ih := RpA.fm f is r
    rw [List.filterMap_cons, List.filterMap_cons]
    cases h : ds[f i]? with
    | none =>
      have : vs[f i]? = none := by
        rw [List.getElem?_eq_none_iff] at h ⊢
        rw [← r.length]; exact h
      rw [this]
      exact ih
    | some v =>
      obtain ⟨u, h1, h2⟩ := r.get h
      rw [h1]
      exact .cons h2 ih
theorem RpA.step {k : Kx} {H : Hp} {ds : List D} {vs : List V} (r : RpA k H ds vs) (lo : Option Int) (st : Int) : RpA k H (stepOf ds lo st) (stepOf vs lo st) := by
  unfold stepOf
  rw [r.length]
  exact RpA.fm _ _ r

section
variable {T : Type} {k : Kx} {C : Cell T} {E0 En H0 H H0' H' : Hp} {σ : L2.St} {ρ : Env} {t t' : T} {d : D} {v : V} {ds : List D} {vs : List V} {ks : List (Str × D)} {kvs : List (Key × V)} {l : Addr}
variable {X : Cx} {a b c e : Expr} {es : List Expr} {pos p2 : Pos} {fa fb fc : Env → M T D}
/-! ### parts -/
def tO (C : Cell T) (k : Kx) (f : Env → M T (Option Int)) : TO := fun σ H Q => ∃ E0 En H0 ρ t d t', RS k C E0 En H0 H σ ρ t ∧ f ρ t = some (d, t') ∧
  ∀ H0' H', RS k C E0 En H0' H' σ ρ t' → Go C H0 H H0' H' → Q d H'
abbrev EO (k : Kx) (C : Cell T) (X : Cx) (e : Option Expr) (f : Env → M T (Option Int)) : Prop := PO X e (tO C k f)
theorem po_imp {e : Option Expr} {t u : TO} (h : PO X e t) (i : ∀ σ H Q, u σ H Q → t σ H Q) : PO X e u := ⟨fun pins s σ H Q I q => h.run pins s σ H Q I (i σ H Q q)⟩
theorem eo_none : EO k C X none (fun _ => ret none) := po_imp po_none fun σ H Q ⟨E0, En, H0, ρ, t, d, t', R, ev, q⟩ => by
  obtain ⟨rfl, rfl⟩ := ret_some ev
  exact q _ _ R Go.refl
def asI : D → Option Int
  | .int i => some i
  | _ => none
theorem asI_some {i : Int} (h : asI d = some i) : d = .int i := by
  cases d <;> first | (cases h; done) | (cases h; rfl)
theorem eo_some (h : ED k C X a fa) : EO k C X (some a) (fun ρ => bnd (fa ρ) fun x => bnd (lft (asI x)) fun i => ret (some i)) := po_imp (po_some h) fun σ H Q ⟨E0, En, H0, ρ, t, d, t', R, ev, q⟩ => by
  obtain ⟨x, t1, e1, ev1⟩ := bnd_some ev
  obtain ⟨i, t2, e2, ev2⟩ := bnd_some ev1
  obtain ⟨rfl, rfl⟩ := ret_some ev2
  obtain ⟨e3, rfl⟩ := lft_some e2
  have hx := asI_some e3
  subst hx
  refine ⟨E0, En, H0, ρ, t, _, _, R, e1, fun H1 H1' v R1 g1 r1 => ?_⟩
  cases r1
  exact ⟨i, rfl, q _ _ R1 g1⟩
/-! ### xs[lo:hi] -/
def cutD (xs : List D) (lo hi : Option Int) : List D := (xs.drop (HT.sIx xs.length 0 lo)).take (HT.sIx xs.length xs.length hi - HT.sIx xs.length 0 lo)
theorem RpA.cut (r : RpA k H ds vs) (lo hi : Option Int) : RpA k H (cutD ds lo hi) (cutV vs lo hi) := by
  unfold cutD cutV
  rw [r.length]
  exact (r.drop _).take _
variable {lo hi : Option Expr} {fl fh : Env → M T (Option Int)}
theorem el_slice (ha : EB k C X a fa) (hl : EO k C X lo fl) (hh : EO k C X hi fh) : EL k C X (.Subscript a (.Slice lo hi none p2) pos) (fun ρ => bnd (fa ρ) fun x => bnd (fl ρ) fun l => bnd (fh ρ) fun h => bnd (lft (lstD x)) fun ds => ret (cutD ds l h)) :=
  pe_imp (pe_slice sl_list ha hl hh) fun σ H Q ⟨E0, En, H0, ρ, t, d, t', R, ev, q⟩ => by
  obtain ⟨x, t1, e1, ev1⟩ := bnd_some ev
  obtain ⟨l, t2, e2, ev2⟩ := bnd_some ev1
  obtain ⟨h, t3, e3, ev3⟩ := bnd_some ev2
  obtain ⟨ds, t4, e4, ev4⟩ := bnd_some ev3
  obtain ⟨rfl, rfl⟩ := ret_some ev4
  obtain ⟨e5, rfl⟩ := lft_some e4
  unfold lstD at e5
  split at e5
  · next ds' =>
    cases e5
    refine ⟨E0, En, H0, ρ, t, _, t1, R, e1, fun H1 H1' v R1 g1 r1 => ⟨E0, En, H1, ρ, t1, l, t2, R1, e2, fun H2 H2' R2 g2 => ⟨E0, En, H2, ρ, t2, h, _, R2, e3, fun H3 H3' R3 g3 => ?_⟩⟩⟩
    obtain ⟨p, vs, rfl, hp, _, r⟩ := (r1.go g2).go g3
    refine ⟨p, vs, rfl, .inl (.inl hp), fun p' hp' => ?_⟩
    obtain ⟨R4, g4⟩ := R3.newO (.lst (cutV vs l h)) hp'
    exact q _ _ _ _ R4 (((g1.trans g2).trans g3).trans g4) (g1.trk p' (g2.trk p' (g3.trk p' hp'))) (R3.fresh hp').2.1 upd_same (r.cut l h)
  · cases e5
def tupD : D → Option (List D)
  | .tup ds => some ds
  | _ => none
theorem tupD_some (h : tupD d = some ds) : d = .tup ds := by
  cases d <;> first | (cases h; done) | (cases h; rfl)
theorem ed_slice (ha : ED k C X a fa) (hl : EO k C X lo fl) (hh : EO k C X hi fh) : ED k C X (.Subscript a (.Slice lo hi none p2) pos) (fun ρ => bnd (fa ρ) fun x => bnd (fl ρ) fun l => bnd (fh ρ) fun h => bnd (lft (tupD x)) fun ds => ret (.tup (cutD ds l h))) :=
  pe_imp (pe_slice sl_tupF ha hl hh) fun σ H Q ⟨E0, En, H0, ρ, t, d, t', R, ev, q⟩ => by
  obtain ⟨x, t1, e1, ev1⟩ := bnd_some ev
  obtain ⟨l, t2, e2, ev2⟩ := bnd_some ev1
  obtain ⟨h, t3, e3, ev3⟩ := bnd_some ev2
  obtain ⟨ds, t4, e4, ev4⟩ := bnd_some ev3
  obtain ⟨rfl, rfl⟩ := ret_some ev4
  obtain ⟨e5, rfl⟩ := lft_some e4
  have hx := tupD_some e5
  subst hx
  refine ⟨E0, En, H0, ρ, t, _, t1, R, e1, fun H1 H1' v R1 g1 r1 => ⟨E0, En, H1, ρ, t1, l, t2, R1, e2, fun H2 H2' R2 g2 => ⟨E0, En, H2, ρ, t2, h, _, R2, e3, fun H3 H3' R3 g3 => ?_⟩⟩⟩
  have r3 := Rp.ex (g2.base.trans g3.base) (show Rp k H1 (.tup ds) v from r1)
  cases r3 with
  | tup hp hn r =>
    next p ob vs =>
    refine ⟨p, vs, rfl, .inl (.inr ⟨_, R3.sub _ _ hp⟩), fun hw => ?_, fun p' ob' hp' hn' => ?_⟩
    · rw [← r.length] at hw
      have e : cutD ds l h = ds := by
        unfold cutD
        rw [hw.1, hw.2, List.drop_zero, Nat.sub_zero, List.take_length]
      refine q _ _ _ R3 ((g1.trans g2).trans g3) ?_
      rw [e]
      exact .tup hp hn r
    · obtain ⟨R4, g4⟩ := R3.new (.frz ob' (.tup (cutV vs l h))) hp'
      exact q _ _ _ R4 (((g1.trans g2).trans g3).trans g4) (.tup upd_same hn' ((r.cut l h).ex g4.base))
/-- t[lo::k] -/
theorem pe_step {te : TE} {tl : TO} {st : Int} {sx : Expr} (hsx : PE X sx (tC (.int st))) (h0 : (st == 0) = false) (h1 : (st == 1) = false) (he : PE X e te) (hl : PO X lo tl) :
    PE X (.Subscript e (.Slice lo none (some sx) p2) pos) (fun σ H Q => te σ H fun x H1 => tl σ H1 fun l H2 => ∃ a xs, x = .ref a ∧ SqT X.K H2 a xs ∧ (stepOf xs l st).length ≤ sizeLine ∧ ∀ p o, H2 p = none → Nd o → Q (.ref p) (upd H2 p (.frz o (.tup (stepOf xs l st))))) := by
  refine ⟨fun pins s σ H Q I h => ?_⟩
  refine Subscript_ (thn (he.run pins s σ H _ I h) fun v s1 ⟨x, H1, I1, r1, q1⟩ => ?_)
  refine wpAny_Slice (thn (hl.run pins s1 σ H1 _ I1 q1) fun vl s2 ⟨l, H2, I2, pl, q2⟩ => ?_)
  rw [evalPart_none]
  refine wpAny_pure ?_
  refine thn ((po_some hsx).run pins s2 σ H2 (fun o H3 => o = some st ∧ H3 = H2) I2 ⟨st, rfl, rfl, rfl⟩) fun vk s3 ⟨o, H3, I3, pk, eo, eH⟩ => ?_
  subst eo eH
  obtain ⟨a, xs, rfl, hx, hz, q3⟩ := q2
  cases r1
  have I4 : Inv X pins σ H3 { s3 with heap := s3.heap.push { cls := .type "slice", data := .fields #[vl, .none, vk] } } := I3.kept (t' := s3.toks) fun b ob q => Heap.get?_push_of_some _ q
  obtain ⟨its, r, ht, hz2⟩ := I4.tuple hx
  have rs := Vals.step r l st
  have hlen : (stepOf its l st).length ≤ sizeLine := by rw [← rs.length]; exact hz
  refine tail_any (T := "tuple") (id := _) (ops := [.ref a, .ref s3.heap.objs.size]) ht.typeIs PyProof.Rows.slot_tuple_getitem.lookup ?_ (by with_unfolding_all rfl)
  have et : its.toArray.toList = its := by simp
  refine getItem_tuple_step (items := its.toArray) ht (Heap.IsSliceOf.new ..) pl pk h0 h1 ?_ (by rw [et]; exact hlen)
  rw [et]
  obtain ⟨o, ho, I5⟩ := laidF (tk := s3.toks) I4 (fun b u e => Heap.get?_push_of_some _ e) (Nat.le_refl _) hz rs (Heap.get?_push_size _ rfl)
  exact ⟨.ref _, _, I5, rfl, q3 _ o (I4.hok.fresh (Nat.le_refl _)) ho⟩
theorem ed_step {lo : Option Expr} {fl : Env → M T (Option Int)} {st : Int} {sx : Expr} (hsx : PE X sx (tC (.int st))) (ha : EB k C X a fa) (hl : EO k C X lo fl) (h0 : (st == 0) = false := by decide) (h1 : (st == 1) = false := by decide) :
    ED k C X (.Subscript a (.Slice lo none (some sx) p2) pos) (fun ρ => bnd (fa ρ) fun x => bnd (fl ρ) fun l => bnd (lft (tupD x)) fun ds => bnd (lft (sml (stepOf ds l st))) fun ys => ret (.tup ys)) :=
  pe_imp (pe_step hsx h0 h1 ha hl) fun σ H Q ⟨E0, En, H0, ρ, t, d, t', R, ev, q⟩ => by
  obtain ⟨x, t1, e1, ev1⟩ := bnd_some ev
  obtain ⟨l, t2, e2, ev2⟩ := bnd_some ev1
  obtain ⟨ds, t3, e3, ev3⟩ := bnd_some ev2
  obtain ⟨ys, t4, e4, ev4⟩ := bnd_some ev3
  obtain ⟨rfl, rfl⟩ := ret_some ev4
  obtain ⟨e5, rfl⟩ := lft_some e3
  obtain ⟨e6, rfl⟩ := lft_some e4
  obtain ⟨rfl, hz, _⟩ := sml_some e6
  have hx := tupD_some e5
  subst hx
  refine ⟨E0, En, H0, ρ, t, _, t1, R, e1, fun H1 H1' v R1 g1 r1 => ⟨E0, En, H1, ρ, t1, l, _, R1, e2, fun H2 H2' R2 g2 => ?_⟩⟩
  have r3 := Rp.ex g2.base (show Rp k H1 (.tup ds) v from r1)
  cases r3 with
  | tup hp hn r =>
    next p ob vs =>
    have rs := r.step l st
    refine ⟨p, vs, rfl, .inl (.inr ⟨_, R2.sub _ _ hp⟩), by rw [← rs.length]; exact hz, fun p' ob' hp' hn' => ?_⟩
    obtain ⟨R4, g4⟩ := R2.new (.frz ob' (.tup (stepOf vs l st))) hp'
    exact q _ _ _ R4 ((g1.trans g2).trans g4) (.tup upd_same hn' (rs.ex g4.base))
end
end MM
/-! M9 -/
namespace MM
open PySem PySem.Spec PyProof.Rows L2
section
variable {T : Type} {k : Kx} {C : Cell T} {E0 En H0 H H0' H' : Hp} {σ : L2.St} {ρ : Env} {t t' : T} {d : D} {v : V} {ds : List D} {vs : List V} {ks : List (Str × D)} {kvs : List (Key × V)} {l : Addr}
variable {X : Cx} {a b c e : Expr} {es : List Expr} {pos p2 : Pos} {fa fb fc : Env → M T D}

/-! ### xs + ys, xs * n -/
def catL (x y : D) : Option (List D) := match x, y with
  | .lst xs, .lst ys => sml (xs ++ ys)
  | _, _ => none
theorem el_cat (ha : EB k C X a fa) (hb : EB k C X b fb) : EL k C X (.BinOp a .Add b pos) (fun ρ => bnd (fa ρ) fun x => bnd (fb ρ) fun y => lft (catL x y)) :=
  pe_imp (pe_op op_cat ha hb) fun σ H Q ⟨E0, En, H0, ρ, t, d, t', R, ev, q⟩ => by
  obtain ⟨x, t1, e1, ev1⟩ := bnd_some ev
  obtain ⟨y, t2, e2, ev2⟩ := bnd_some ev1
  obtain ⟨e3, rfl⟩ := lft_some ev2
  unfold catL at e3
  split at e3
  · next xs ys =>
    obtain ⟨rfl, hz, _⟩ := sml_some e3
    refine ⟨E0, En, H0, ρ, t, _, t1, R, e1, fun H1 H1' v R1 g1 r1 => ⟨E0, En, H1, ρ, t1, _, t', R1, e2, fun H2 H2' u R2 g2 r2 => ?_⟩⟩
    obtain ⟨l, vs, rfl, h1, _, r⟩ := r1.go g2
    obtain ⟨l2, vs2, rfl, h2, _, r'⟩ := r2
    refine ⟨l, l2, vs, vs2, rfl, rfl, h1, h2, by rw [← r.length, ← r'.length, ← List.length_append]; exact hz, fun p hp => ?_⟩
    obtain ⟨R4, g4⟩ := R2.newO (.lst (vs ++ vs2)) hp
    exact q _ _ _ _ R4 ((g1.trans g2).trans g4) (g1.trk p (g2.trk p hp)) (R2.fresh hp).2.1 upd_same (r.append r')
  · cases e3
def catT (x y : D) : Option D := match x, y with
  | .tup xs, .tup ys => (sml (xs ++ ys)).map .tup
  | _, _ => none
theorem ed_catT (ha : EB k C X a fa) (hb : EB k C X b fb) : ED k C X (.BinOp a .Add b pos) (fun ρ => bnd (fa ρ) fun x => bnd (fb ρ) fun y => lft (catT x y)) :=
  pe_imp (pe_op op_catF ha hb) fun σ H Q ⟨E0, En, H0, ρ, t, d, t', R, ev, q⟩ => by
  obtain ⟨x, t1, e1, ev1⟩ := bnd_some ev
  obtain ⟨y, t2, e2, ev2⟩ := bnd_some ev1
  obtain ⟨e3, rfl⟩ := lft_some ev2
  unfold catT at e3
  split at e3
  · next xs ys =>
    cases hs : sml (xs ++ ys) with
    | none => rw [hs] at e3; cases e3
    | some zs =>
      rw [hs] at e3
      cases e3
      obtain ⟨rfl, hz, _⟩ := sml_some hs
      refine ⟨E0, En, H0, ρ, t, _, t1, R, e1, fun H1 H1' v R1 g1 r1 => ⟨E0, En, H1, ρ, t1, _, t', R1, e2, fun H2 H2' u R2 g2 r2 => ?_⟩⟩
      have r1' := Rp.ex g2.base (show Rp k H1 (.tup xs) v from r1)
      have r2' := (show Rp k H2 (.tup ys) u from r2)
      cases r1' with
      | tup h1 n1 r =>
        cases r2' with
        | tup h2 n2 r' =>
          next l ob vs l2 ob2 vs2 =>
          refine ⟨l, l2, vs, vs2, rfl, rfl, .inl (.inr ⟨_, R2.sub _ _ h1⟩), .inl (.inr ⟨_, R2.sub _ _ h2⟩), by rw [← r.length, ← r'.length, ← List.length_append]; exact hz, fun e => ?_, fun e => ?_, fun p ob' hp hn => ?_⟩
          · subst e
            cases r
            exact q _ _ _ R2 (g1.trans g2) (.tup h2 n2 r')
          · subst e
            cases r'
            refine q _ _ _ R2 (g1.trans g2) ?_
            rw [List.append_nil]
            exact .tup h1 n1 r
          · obtain ⟨R4, g4⟩ := R2.new (.frz ob' (.tup (vs ++ vs2))) hp
            exact q _ _ _ R4 ((g1.trans g2).trans g4) (.tup upd_same hn ((r.append r').ex g4.base))
  · cases e3
def repL (x y : D) : Option (List D) := match x, y with
  | .lst xs, .int n => if xs.length ≤ 10 ∧ 0 ≤ n ∧ n ≤ 1000 then some (List.replicate n.toNat xs).flatten else none
  | _, _ => none
theorem RpA.rep (r : RpA k H ds vs) : ∀ n : Nat, RpA k H (List.replicate n ds).flatten (List.replicate n vs).flatten
  | 0 => .nil
  | n + 1 => by
    rw [List.replicate_succ, List.replicate_succ, List.flatten_cons, List.flatten_cons]
    exact r.append (r.rep n)
theorem el_rep (ha : EB k C X a fa) (hb : EB k C X b fb) : EL k C X (.BinOp a .Mult b pos) (fun ρ => bnd (fa ρ) fun x => bnd (fb ρ) fun y => lft (repL x y)) :=
  pe_imp (pe_op op_rep ha hb) fun σ H Q ⟨E0, En, H0, ρ, t, d, t', R, ev, q⟩ => by
  obtain ⟨x, t1, e1, ev1⟩ := bnd_some ev
  obtain ⟨y, t2, e2, ev2⟩ := bnd_some ev1
  obtain ⟨e3, rfl⟩ := lft_some ev2
  unfold repL at e3
  split at e3
  · next xs n =>
    split at e3
    · next hh =>
      cases e3
      refine ⟨E0, En, H0, ρ, t, _, t1, R, e1, fun H1 H1' v R1 g1 r1 => ⟨E0, En, H1, ρ, t1, _, t', R1, e2, fun H2 H2' u R2 g2 r2 => ?_⟩⟩
      obtain ⟨l, vs, rfl, h1, _, r⟩ := r1.go g2
      cases (show Rp k H2 (.int n) u from r2)
      refine ⟨l, n, vs, rfl, rfl, h1, by omega, by omega, ?_, fun p hp => ?_⟩
      · rw [← r.length]
        exact Nat.le_trans (Nat.mul_le_mul hh.1 (show n.toNat ≤ 1000 by omega)) (by decide)
      · obtain ⟨R4, g4⟩ := R2.newO (.lst (List.replicate n.toNat vs).flatten) hp
        exact q _ _ _ _ R4 ((g1.trans g2).trans g4) (g1.trk p (g2.trk p hp)) (R2.fresh hp).2.1 upd_same (r.rep n.toNat)
    · cases e3
  · cases e3

/-! ### one sign in a text -/
def inS (x y : D) : Option D := match x, y with
  | .str s, .str z => match s.cps.toList with
    | [c] => some (.bl (decide (c ∈ z.cps.toList)))
    | _ => none
  | _, _ => none
theorem ok_inS : OpOk k C (fun x y H Q => ∃ (c : Nat) (z : Str), x = .str ⟨#[c]⟩ ∧ y = .str z ∧ Q (.bl (decide (c ∈ z.cps.toList))) H) inS := by
  intro E0 En H0 H σ ρ t x y d v u Q R rx ry e q
  unfold inS at e
  split at e
  · next s z =>
    cases (show Rp k H0 (.str s) v from rx)
    cases (show Rp k H0 (.str z) u from ry)
    split at e
    · next c hc =>
      cases e
      refine ⟨c, z, ?_, rfl, q _ (.bl _)⟩
      obtain ⟨⟨xs⟩⟩ := s
      have : xs = [c] := hc
      rw [this]
    · cases e
  · cases e

/-! ### a <= b <= c -/
theorem et_chain {op op' : CmpOp} {r r' : R2} {g g' : D → D → Option D} (ho : OpR X (compareOp op) r) (ho' : OpR X (compareOp op') r') (ok : OpOk k C r g) (ok' : OpOk k C r' g') (ha : EB k C X a fa) (hb : EB k C X b fb) (hc : EB k C X c fc)
    (hm : lastMarks [op, op'] [b, c] = false := by with_unfolding_all rfl) :
    ET k C X (.Compare a [op, op'] [b, c] pos) (fun ρ => bnd (fa ρ) fun x => bnd (fb ρ) fun y => bnd (lft (g x y)) fun z => bnd (lft (asB z)) fun b => match b with
      | false => ret false
      | true => bnd (fc ρ) fun z => bnd (lft (g' y z)) fun w => lft (asB w)) :=
  pt_imp (pt_chain ho ho' ha hb hc hm) fun σ H Q ⟨E0, En, H0, ρ, t, d, t', R, ev, q⟩ => by
  obtain ⟨x, t1, e1, ev1⟩ := bnd_some ev
  obtain ⟨y, t2, e2, ev2⟩ := bnd_some ev1
  obtain ⟨z, t3, e3, ev3⟩ := bnd_some ev2
  obtain ⟨b, t4, e4, ev4⟩ := bnd_some ev3
  obtain ⟨e5, rfl⟩ := lft_some e3
  obtain ⟨e6, rfl⟩ := lft_some e4
  have hz := asB_some e6
  subst hz
  refine ⟨E0, En, H0, ρ, t, x, t1, R, e1, fun H1 H1' v R1 g1 r1 => ⟨E0, En, H1, ρ, t1, y, _, R1, e2, fun H2 H2' u R2 g2 r2 => ?_⟩⟩
  refine ok E0 En H2 H2' σ ρ _ x y _ v u _ R2 (r1.go g2) r2 e5 fun w hw => ?_
  cases hw
  refine ⟨b, rfl, ?_⟩
  cases b with
  | false =>
    obtain ⟨rfl, rfl⟩ := ret_some ev4
    exact ⟨false, rfl, q _ _ R2 (g1.trans g2)⟩
  | true =>
    obtain ⟨z, t5, e7, ev5⟩ := bnd_some ev4
    obtain ⟨w, t6, e8, ev6⟩ := bnd_some ev5
    obtain ⟨e9, rfl⟩ := lft_some e8
    obtain ⟨e10, rfl⟩ := lft_some ev6
    have hw := asB_some e10
    subst hw
    refine ⟨E0, En, H2, ρ, _, z, _, R2, e7, fun H3 H3' x3 R3 g3 r3 => ?_⟩
    refine ok' E0 En H3 H3' σ ρ _ y z _ u x3 _ R3 (r2.go g3) r3 e9 fun w hw => ?_
    cases hw
    exact ⟨d, rfl, q _ _ R3 ((g1.trans g2).trans g3)⟩

/-! ### min(a, b) -/
theorem ed_min {x : Str} {p : Pos} {fl : Env → M T (List D)} (hc : X.calm = true) (hm : X.mg "min" = none) (ha : EA k C X [a, b] fl) (hg : Gl X "min" := by rfl)
    (he : starEach [a, b] X.env = (false, eval a X.env) :: starEach [b] X.env := by rfl) (hpl : (backTo pos (starEach [b] X.env)).any (·.1) = false := by first | rfl | simp [starEach, backTo]) : ED k C X (.Call (.Name "min" p) [a, b] [] pos) (fun ρ => bnd (fl ρ) fun xs => lft (match xs with
      | [.int i, .int j] => some (.int (if j < i then j else i))
      | _ => none)) :=
  pe_imp (pe_callB (call_min2 hc) hg hm (by rfl) ha (by decide) (by decide) he hpl) fun σ H Q ⟨E0, En, H0, ρ, t, d, t', R, ev, q⟩ => by
  obtain ⟨xs, t1, e1, ev1⟩ := bnd_some ev
  obtain ⟨e2, rfl⟩ := lft_some ev1
  split at e2
  · next i j =>
    cases e2
    refine ⟨E0, En, H0, ρ, t, _, t', R, e1, fun H1 H1' vs R1 g1 r1 => ?_⟩
    cases r1 with
    | cons r1 r2 =>
      cases r2 with
      | cons r2 r3 =>
        cases r3
        cases r1
        cases r2
        exact ⟨i, j, rfl, q _ _ _ R1 g1 (.int _)⟩
  · cases e2

/-! ### isinstance -/
def tyD : D → Option String
  | .non => some "NoneType"
  | .bl _ => some "bool"
  | .int _ => some "int"
  | .str _ => some "str"
  | .tup _ => some "tuple"
  | .lst _ => some "list"
  | .dct _ => some "dict"
  | .pr _ _ => some "tuple"
  | _ => none
theorem tyD_of {K : PySem.W.Frag} {n : String} (R : RS k C E0 En H0 H σ ρ t) (h : Rd1 k C H0 H d v) (e : tyD d = some n) : TyX K H v (.type n) := by
  cases d with
  | non => cases e; cases (show Rp k H0 .non v from h); exact .base .non
  | bl b => cases e; cases (show Rp k H0 (.bl b) v from h); exact .base (.bl b)
  | int i => cases e; cases (show Rp k H0 (.int i) v from h); exact .base (.int i)
  | str i => cases e; cases (show Rp k H0 (.str i) v from h); exact .base (.str i)
  | tup ds =>
    cases e
    have h' : Rp k H0 (.tup ds) v := h
    clear h
    cases h' with
    | tup h n r => exact .fTuple (R.sub _ _ h)
  | lst ds =>
    cases e
    obtain ⟨l, vs, rfl, h, _⟩ := h
    exact .base (.lst h)
  | dct ks =>
    cases e
    obtain ⟨l, vs, rfl, h, _⟩ := h
    exact .base (.dK h)
  | pr a b =>
    cases e
    have h' : Rp k H0 (.pr a b) v := h
    clear h
    cases h' with
    | pr h r r2 => exact .base (.tup (R.sub _ _ h))
  | opq => cases e
  | tub => cases e
def isiD (cs : List String) (x : D) : Option D := match tyD x with
  | some n => match cs.mapM (kitB n) with
    | some bs => some (.bl (bs.any id))
    | none => none
  | none => match x, cs with
    | .opq, ["tuple"] => some (.bl false)
    | _, _ => none
end
end MM
/-! M10 -/
namespace MM
open PySem PySem.Spec PyProof.Rows L2
section
variable {T : Type} {k : Kx} {C : Cell T} {E0 En H0 H H0' H' : Hp} {σ : L2.St} {ρ : Env} {t t' : T} {d : D} {v : V} {ds : List D} {vs : List V} {ks : List (Str × D)} {kvs : List (Key × V)} {l : Addr}
variable {X : Cx} {a b c e : Expr} {es : List Expr} {pos p2 : Pos} {fa fb fc : Env → M T D}
theorem isiD_one {n : String} {x d : D} (h : isiD [n] x = some d) : (∃ m b, tyD x = some m ∧ kitB m n = some b ∧ d = .bl b) ∨ (x = .opq ∧ n = "tuple" ∧ d = .bl false) := by
  unfold isiD at h
  cases e : tyD x with
  | none =>
    rw [e] at h
    dsimp only at h
    split at h
    · next e2 =>
      cases h
      cases e2
      exact .inr ⟨rfl, rfl, rfl⟩
    · cases h
  | some m =>
    rw [e] at h
    simp only [List.mapM_cons, List.mapM_nil] at h
    cases e2 : kitB m n with
    | none => rw [e2] at h; cases h
    | some b =>
      rw [e2] at h
      cases h
      exact .inl ⟨m, b, rfl, e2, by simp⟩
theorem isiD_two {n1 n2 : String} {x d : D} (h : isiD [n1, n2] x = some d) : ∃ m b1 b2, tyD x = some m ∧ kitB m n1 = some b1 ∧ kitB m n2 = some b2 ∧ d = .bl (b1 || b2) := by
  unfold isiD at h
  cases e : tyD x with
  | none =>
    rw [e] at h
    dsimp only at h
    split at h
    · next e2 => cases e2
    · cases h
  | some m =>
    rw [e] at h
    simp only [List.mapM_cons, List.mapM_nil] at h
    cases e2 : kitB m n1 with
    | none => rw [e2] at h; cases h
    | some b =>
      cases e3 : kitB m n2 with
      | none => rw [e2, e3] at h; cases h
      | some b' =>
        rw [e2, e3] at h
        cases h
        exact ⟨m, b, b', rfl, e2, e3, by simp⟩
/-- what the opaque things' class must say for isinstance -/
structure OqC (K : PySem.W.Frag) (D : Addr) : Prop where
  cl : (PySem.W.clsIn K D).isSome = true
  ga : PySem.W.findIn K (.ref D) "__getattribute__" = some (some (.builtin "BaseException.__getattribute__"))
  gt : PySem.W.findIn K (.ref D) "__getattr__" = some none
  sb : PySem.W.subIn K (.ref D) (.type "BaseException") = some true
  ca : PySem.W.findIn K (.ref D) "__class__" = some (some (.builtin "object.__class__"))
  sp : PySem.W.specialIn K (.builtin "object.__class__") "__get__" = some (some (.builtin "getset_descriptor.__get__"))
  tk : PySem.W.takesIn K (.builtin "object.__class__") = some true
  ob : PySem.W.mroIn K D (.type "object") = some true
  tu : PySem.W.kitOne K (.ref D) (.type "tuple") = some false
theorem opq_inst {pins : List (Addr × Obj)} {s : Shared} {H : Hp} {a dx D : Addr} {fs : List (Str × V)} (I : Inv X pins σ H s) (e : H a = some (exo a D (some dx))) (ed : H dx = some (exd dx fs)) : ∃ ox od, PySem.W.InstAt s.heap a ox D od := by
  obtain ⟨t1, ho⟩ := exo_at I.hok e
  obtain ⟨mA, hns, _⟩ := exd_at I.hok ed
  obtain ⟨oD, _, _, hoD, _, _⟩ := hns
  exact ⟨_, some oD, ho, rfl, rfl, hoD⟩
theorem call_isiO {D : Addr} (O : OqC X.K D) : CallR X (.builtin "isinstance") (fun xs H Q => rIsi X.K xs H Q ∨ ∃ a dx fs, xs = [.ref a, .ty "tuple"] ∧ H a = some (exo a D (some dx)) ∧ H dx = some (exd dx fs) ∧ Q (.bl false) H) := by
  intro pins s σ H xs us Q I r h
  rcases h with h | ⟨a, dx, fs, rfl, e, ed, q⟩
  · exact call_isi pins s σ H xs us Q I r h
  · obtain ⟨u1, u2, rfl, r1, r2⟩ := vals2 r
    cases (show u1 = .ref a from r1)
    cases (show u2 = .type "tuple" from r2)
    obtain ⟨ox, od, J⟩ := opq_inst I e ed
    exact PySem.W.kia_one (PySem.W.kitx_exc O.cl O.ga O.gt O.sb O.ca O.sp O.tk O.ob) I.kIn J O.tu (fun z => nomatch z) fun tk => ⟨.bl false, H, I.tok tk, rfl, q⟩
theorem kit_two {K : PySem.W.Frag} {m n1 n2 : String} {b1 b2 : Bool} (h1 : kitB m n1 = some b1) (h2 : kitB m n2 = some b2) : PySem.W.kitAny K (.type m) [.type n1, .type n2] = some (b1 || b2) :=
  kitAny_cons (kit_ty h1) (fun e => kitAny_cons (kit_ty h2) (fun e2 => by rw [e, e2]; exact kitAny_nil) fun e2 => by rw [e2, Bool.or_true]) fun e => by rw [e, Bool.true_or]
variable {x : Str} {p q1 q2 q3 : Pos} {n n1 n2 : String} {y y1 y2 : Str} {z : Nat}
theorem ed_isi (O : OqC X.K k.oc) (n : String) (hm : X.mg "isinstance" = none) (hy : X.mg y = none) (ha : EB k C X a fa) (hg : Gl X "isinstance" := by rfl) (hgy : Gl X y := by rfl) (hv : bootBuiltins y = some (.type n) := by decide +kernel) (hn : y ≠ "__name__" := by decide)
    (hd : (y == ("__debug__" : Str)) = false := by decide)
    (hs1 : starEach [a, .Name y q1] X.env = (false, eval a X.env) :: starEach [.Name y q1] X.env := by rfl) (hpl : (backTo pos (starEach [.Name y q1] X.env)).any (·.1) = false := by first | rfl | simp [starEach, backTo]) :
    ED k C X (.Call (.Name "isinstance" p) [a, .Name y q1] [] pos) (fun ρ => bnd (fa ρ) fun x => lft (isiD [n] x)) :=
  pe_imp (pe_callB (call_isiO O) hg hm PyProof.Rows.boot_isinstance (pa_cons ha (pa_cons (pe_bltn (v := .ty n) hgy hy hv rfl hn hd) pa_nil (by rfl)) hs1) (by decide) (by decide) hs1 hpl) fun σ H Q ⟨E0, En, H0, ρ, t, d, t', R, ev, q⟩ => by
  obtain ⟨x, t1, e1, ev1⟩ := bnd_some ev
  obtain ⟨e2, rfl⟩ := lft_some ev1
  rcases isiD_one e2 with ⟨m, b, e3, e4, rfl⟩ | ⟨rfl, rfl, rfl⟩
  · exact ⟨E0, En, H0, ρ, t, _, t', R, e1, fun H1 H1' v R1 g1 r1 => .inl ⟨v, .ty n, .type m, .type n, b, rfl, .ty n, tyD_of R1 r1 e3, kit_ty e4, q _ _ _ R1 g1 (.bl b)⟩⟩
  · refine ⟨E0, En, H0, ρ, t, _, t', R, e1, fun H1 H1' v R1 g1 r1 => ?_⟩
    have r1 : Rp k H1 .opq v := r1
    cases r1 with
    | opq h1 h2 => exact .inr ⟨_, _, _, rfl, R1.sub _ _ h1, R1.sub _ _ h2, q _ _ _ R1 g1 (.bl false)⟩
theorem ed_isi2 (n1 n2 : String) (hm : X.mg "isinstance" = none) (hy : X.mg y1 = none) (hy2 : X.mg y2 = none) (ha : EB k C X a fa) (hg : Gl X "isinstance" := by rfl) (hgy : Gl X y1 := by rfl) (hgy2 : Gl X y2 := by rfl) (hv : bootBuiltins y1 = some (.type n1) := by decide +kernel) (hv2 : bootBuiltins y2 = some (.type n2) := by decide +kernel)
    (hn : y1 ≠ "__name__" := by decide) (hn2 : y2 ≠ "__name__" := by decide) (hd : (y1 == ("__debug__" : Str)) = false := by decide) (hd2 : (y2 == ("__debug__" : Str)) = false := by decide)
    (hs1 : starEach [a, .Tuple [.Name y1 q1, .Name y2 q2] z q3] X.env = (false, eval a X.env) :: starEach [.Tuple [.Name y1 q1, .Name y2 q2] z q3] X.env := by rfl) (hpl : (backTo pos (starEach [.Tuple [.Name y1 q1, .Name y2 q2] z q3] X.env)).any (·.1) = false := by first | rfl | simp [starEach, backTo]) :
    ED k C X (.Call (.Name "isinstance" p) [a, .Tuple [.Name y1 q1, .Name y2 q2] z q3] [] pos) (fun ρ => bnd (fa ρ) fun x => lft (isiD [n1, n2] x)) :=
  pe_imp (pe_callB call_isiT hg hm PyProof.Rows.boot_isinstance (pa_cons ha (pa_cons (pe_tup (pa_cons (pe_bltn (v := .ty n1) hgy hy hv rfl hn hd) (pa_cons (pe_bltn (v := .ty n2) hgy2 hy2 hv2 rfl hn2 hd2) pa_nil (by rfl)) (by rfl))) pa_nil (by rfl)) hs1) (by decide) (by decide) hs1 hpl) fun σ H Q ⟨E0, En, H0, ρ, t, d, t', R, ev, q⟩ => by
  obtain ⟨x, t1, e1, ev1⟩ := bnd_some ev
  obtain ⟨e2, rfl⟩ := lft_some ev1
  obtain ⟨m, b1, b2, e3, e4, e5, rfl⟩ := isiD_two e2
  refine ⟨E0, En, H0, ρ, t, _, t', R, e1, fun H1 H1' v R1 g1 r1 => ⟨by show 2 ≤ sizeLine; decide, fun p hp => ?_⟩⟩
  obtain ⟨R2, g2⟩ := R1.newO (.tup [.ty n1, .ty n2]) hp
  exact ⟨v, p, [.ty n1, .ty n2], .type m, [.type n1, .type n2], b1 || b2, rfl, upd_same, .cons (.ty n1) (.cons (.ty n2) .nil), tyD_of R2 (r1.go g2) e3, kit_two e4 e5, q _ _ _ R2 (g1.trans g2) (.bl _)⟩
end
end MM
/-! S1 -/
namespace MM
open PySem PySem.Spec PyProof.Rows L2

/-! ## the order of texts and of rows of texts -/
def ltS (x y : Str) : Bool := decide (x.cps.toList < y.cps.toList)
def ltR : List Str → List Str → Bool
  | [], [] => false
  | [], _ :: _ => true
  | _ :: _, [] => false
  | x :: xs, y :: ys => if x = y then ltR xs ys else ltS x y
def isS : D → Bool
  | .str _ => true
  | _ => false
def isT : D → Bool
  | .tup (d :: ds) => (txts (d :: ds)).isSome
  | _ => false
def isP : D → Bool
  | .pr (.str _) (.str _) => true
  | _ => false
def keyD : D → List Str
  | .str s => [s]
  | .pr (.str x) (.str y) => [x, y]
  | .tup ds => (txts ds).getD []
  | _ => []
def leD (a b : D) : Bool := !ltR (keyD b) (keyD a)
def ins {α : Type} (le : α → α → Bool) (x : α) : List α → List α
  | [] => [x]
  | y :: ys => if le x y then x :: y :: ys else y :: ins le x ys
def isort {α : Type} (le : α → α → Bool) : List α → List α
  | [] => []
  | x :: xs => ins le x (isort le xs)
def sortD (ds : List D) : Option (List D) := if ((ds.all isS || ds.all isT) || ds.all isP) && decide (ds.length ≤ 100000) then some (isort leD ds) else none

theorem ins_perm {α : Type} (le : α → α → Bool) (x : α) : ∀ l : List α, (ins le x l).Perm (x :: l)
  | [] => .refl _
  | y :: ys => by
    unfold ins
    split
    · exact .refl _
    · exact ((ins_perm le x ys).cons y).trans (.swap x y ys)
theorem isort_perm {α : Type} (le : α → α → Bool) : ∀ l : List α, (isort le l).Perm l
  | [] => .refl _
  | x :: xs => (ins_perm le x _).trans ((isort_perm le xs).cons x)
theorem ins_sorted {α : Type} {le : α → α → Bool} (tr : ∀ a b c, le a b = true → le b c = true → le a c = true) (tt : ∀ a b, le a b = true ∨ le b a = true) (x : α) : ∀ {l : List α}, l.Pairwise (fun a b => le a b = true) → (ins le x l).Pairwise (fun a b => le a b = true)
  | [], _ => List.pairwise_singleton _ _
  | y :: ys, h => by
    unfold ins
    obtain ⟨h1, h2⟩ := List.pairwise_cons.mp h
    split
    · next e => exact List.pairwise_cons.mpr ⟨fun a ha => by
        rcases List.mem_cons.mp ha with rfl | ha
        · exact e
        · exact tr _ _ _ e (h1 a ha), h⟩
    · next e =>
      refine List.pairwise_cons.mpr ⟨fun a ha => ?_, ins_sorted tr tt x h2⟩
      rcases List.mem_cons.mp ((ins_perm le x ys).mem_iff.mp ha) with rfl | ha
      · rcases tt a y with q | q
        · exact absurd q e
        · exact q
      · exact h1 a ha
theorem isort_sorted {α : Type} {le : α → α → Bool} (tr : ∀ a b c, le a b = true → le b c = true → le a c = true) (tt : ∀ a b, le a b = true ∨ le b a = true) : ∀ l : List α, (isort le l).Pairwise (fun a b => le a b = true)
  | [] => .nil
  | x :: xs => ins_sorted tr tt x (isort_sorted tr tt xs)
theorem sorted_uniq {α : Type} {le : α → α → Bool} : ∀ {l m : List α}, l.Perm m → l.Pairwise (fun a b => le a b = true) → m.Pairwise (fun a b => le a b = true) → (∀ a ∈ l, ∀ b ∈ l, le a b = true → le b a = true → a = b) → l = m
  | [], m, p, _, _, _ => (List.Perm.nil_eq p)
  | x :: xs, [], p, _, _, _ => absurd p.length_eq (by simp)
  | x :: xs, y :: ys, p, h1, h2, h3 => by
    obtain ⟨a1, a2⟩ := List.pairwise_cons.mp h1
    obtain ⟨b1, b2⟩ := List.pairwise_cons.mp h2
    have e : x = y := by
      have mx : x ∈ y :: ys := p.mem_iff.mp List.mem_cons_self
      have my : y ∈ x :: xs := p.mem_iff.mpr List.mem_cons_self
      rcases List.mem_cons.mp mx with e | mx
      · exact e
      rcases List.mem_cons.mp my with e | my'
      · exact e.symm
      exact h3 x List.mem_cons_self y my (a1 y my') (b1 x mx)
    subst e
    rw [sorted_uniq ((List.perm_cons x).mp p) a2 b2 fun a ha b hb => h3 a (List.mem_cons_of_mem _ ha) b (List.mem_cons_of_mem _ hb)]

/-! the same as the model's order -/
def encD (d : D) : PyData := (toPy d).getD .none
theorem toPys_txts : ∀ {ds : List D} {xs : List Str}, txts ds = some xs → toPys ds = some (xs.map .str)
  | [], _, e => by cases e; rfl
  | d :: ds, xs, e => by
    cases d <;> first | (unfold txts at e; cases e; done) | skip
    next s =>
      unfold txts at e
      cases q : txts ds with
      | none => rw [q] at e; cases e
      | some ys =>
        rw [q] at e
        cases e
        unfold toPys
        rw [toPys_txts q]
        rfl
theorem txts_inj : ∀ {ds es : List D} {xs : List Str}, txts ds = some xs → txts es = some xs → ds = es
  | [], es, _, e, f => by
    cases e
    cases es with
    | nil => rfl
    | cons d es =>
      cases d <;> first | (unfold txts at f; cases f; done) | skip
      next s =>
        unfold txts at f
        cases q : txts es with
        | none => rw [q] at f; cases f
        | some y => rw [q] at f; cases f
  | d :: ds, es, xs, e, f => by
    cases d <;> first | (unfold txts at e; cases e; done) | skip
    next s =>
      unfold txts at e
      cases q : txts ds with
      | none => rw [q] at e; cases e
      | some ys =>
        rw [q] at e
        cases e
        cases es with
        | nil => cases f
        | cons d es =>
          cases d <;> first | (unfold txts at f; cases f; done) | skip
          next s' =>
            unfold txts at f
            cases q' : txts es with
            | none => rw [q'] at f; cases f
            | some y =>
              rw [q'] at f
              simp only [Option.map_some, Option.some.injEq, List.cons.injEq] at f
              obtain ⟨rfl, rfl⟩ := f
              rw [txts_inj q q']
theorem isS_some {d : D} (h : isS d = true) : ∃ s, d = .str s := by
  cases d <;> first | (cases h; done) | exact ⟨_, rfl⟩
theorem isP_some {d : D} (h : isP d = true) : ∃ x y, d = .pr (.str x) (.str y) := by
  unfold isP at h
  split at h
  · exact ⟨_, _, rfl⟩
  · cases h
theorem isT_some {d : D} (h : isT d = true) : ∃ ds x xs, d = .tup ds ∧ txts ds = some (x :: xs) := by
  cases d <;> first | (cases h; done) | skip
  next ds =>
    cases ds with
    | nil => cases h
    | cons d ds =>
      have h : (txts (d :: ds)).isSome = true := h
      cases q : txts (d :: ds) with
      | none => rw [q] at h; cases h
      | some ys =>
        cases ys with
        | nil =>
          unfold txts at q
          split at q
          · next e => cases e
          · cases q2 : txts ds with
            | none => simp_all
            | some y => simp_all
          · cases q
        | cons y ys => exact ⟨_, y, ys, rfl, q⟩
open PySem.W in
theorem row_txts : ∀ xs ys : List Str, rowLt (xs.map .str) (ys.map .str) = ltR xs ys
  | [], [] => lex_irrefl _
  | [], y :: ys => by
    show rowLt [] (PyData.str y :: ys.map .str) = true
    unfold rowLt
    rw [toks_all_cons]
    simp only [keyToksAll]
    rw [lex_diff (O := itemOrd) (by simp)]
    rfl
  | x :: xs, [] => by
    show rowLt (PyData.str x :: xs.map .str) [] = false
    unfold rowLt
    rw [toks_all_cons]
    simp only [keyToksAll]
    rw [lex_diff (O := itemOrd) (by simp)]
    rfl
  | x :: xs, y :: ys => by
    have ih := row_txts xs ys
    show rowLt (PyData.str x :: xs.map .str) (PyData.str y :: ys.map .str) = if x = y then ltR xs ys else ltS x y
    unfold rowLt at ih ⊢
    rw [dataLt_cons (by simp [alike]), dataLt_str, ih]
    simp only [PyData.eqv, beq_iff_eq]
    rfl
theorem ltR_one (x y : Str) : ltR [x] [y] = ltS x y := by
  unfold ltR
  split
  · next e =>
    subst e
    unfold ltS
    symm
    exact decide_eq_false (List.lt_irrefl _)
  · rfl
def Kin (ds : List D) : Prop := (∀ d ∈ ds, isS d = true) ∨ (∀ d ∈ ds, isT d = true) ∨ ∀ d ∈ ds, isP d = true
/-- two of one kind -/
def Two (a b : D) : Prop := (isS a = true ∧ isS b = true) ∨ (isT a = true ∧ isT b = true) ∨ (isP a = true ∧ isP b = true)
open PySem.W in
theorem lt_enc {a b : D} (h : Two a b) : dataLt (encD a) (encD b) = ltR (keyD a) (keyD b) := by
  rcases h with ⟨h1, h2⟩ | ⟨h1, h2⟩ | ⟨h1, h2⟩
  · obtain ⟨x, rfl⟩ := isS_some h1
    obtain ⟨y, rfl⟩ := isS_some h2
    show dataLt (.str x) (.str y) = ltR [x] [y]
    rw [dataLt_str, ltR_one]
    rfl
  · obtain ⟨ds, x, xs, rfl, e1⟩ := isT_some h1
    obtain ⟨es, y, ys, rfl, e2⟩ := isT_some h2
    have q1 : encD (.tup ds) = .tuple ((x :: xs).map .str) := by
      unfold encD toPy
      rw [toPys_txts e1]; rfl
    have q2 : encD (.tup es) = .tuple ((y :: ys).map .str) := by
      unfold encD toPy
      rw [toPys_txts e2]; rfl
    rw [q1, q2, dataLt_tuple]
    show rowLt _ _ = _
    rw [row_txts]
    show ltR (x :: xs) (y :: ys) = ltR ((txts ds).getD []) ((txts es).getD [])
    rw [e1, e2]
    rfl
  · obtain ⟨x, y, rfl⟩ := isP_some h1
    obtain ⟨x', y', rfl⟩ := isP_some h2
    show dataLt (.tuple ([x, y].map .str)) (.tuple ([x', y'].map .str)) = ltR [x, y] [x', y']
    rw [dataLt_tuple]
    exact row_txts _ _
theorem Kin.two {ds : List D} (h : Kin ds) {a b : D} (ha : a ∈ ds) (hb : b ∈ ds) : Two a b := by
  rcases h with h | h | h
  · exact .inl ⟨h a ha, h b hb⟩
  · exact .inr (.inl ⟨h a ha, h b hb⟩)
  · exact .inr (.inr ⟨h a ha, h b hb⟩)
theorem key_inj {a b : D} (h : Two a b) (e : keyD a = keyD b) : a = b := by
  rcases h with ⟨h1, h2⟩ | ⟨h1, h2⟩ | ⟨h1, h2⟩
  · obtain ⟨x, rfl⟩ := isS_some h1
    obtain ⟨y, rfl⟩ := isS_some h2
    have e' : [x] = [y] := e
    cases e'
    rfl
  · obtain ⟨ds, x, xs, rfl, e1⟩ := isT_some h1
    obtain ⟨es, y, ys, rfl, e2⟩ := isT_some h2
    have e : (txts ds).getD [] = (txts es).getD [] := e
    rw [e1, e2] at e
    have e' : x :: xs = y :: ys := e
    rw [e'] at e1
    rw [txts_inj e1 e2]
  · obtain ⟨x, y, rfl⟩ := isP_some h1
    obtain ⟨x', y', rfl⟩ := isP_some h2
    have e' : [x, y] = [x', y'] := e
    cases e'
    rfl
theorem ltS_irr (x : Str) : ltS x x = false := decide_eq_false (List.lt_irrefl _)
theorem str_ext {x y : Str} (h : x.cps.toList = y.cps.toList) : x = y := by
  obtain ⟨⟨a⟩⟩ := x
  obtain ⟨⟨b⟩⟩ := y
  have : a = b := h
  rw [this]
theorem ltS_tri {x y : Str} (h : x ≠ y) (h2 : ltS x y = false) : ltS y x = true := by
  have h3 : y.cps.toList ≤ x.cps.toList := List.not_lt.mp (of_decide_eq_false h2)
  rcases List.le_iff_lt_or_eq.mp h3 with q | q
  · exact decide_eq_true q
  · exact absurd (str_ext q).symm h
theorem ltS_asym {x y : Str} (h : ltS x y = true) : ltS y x = false := decide_eq_false fun z => List.lt_irrefl _ (List.lt_trans (of_decide_eq_true h) z)
theorem ltS_trans {x y z : Str} (h : ltS x y = true) (h2 : ltS y z = true) : ltS x z = true := decide_eq_true (List.lt_trans (of_decide_eq_true h) (of_decide_eq_true h2))
theorem ltS_ne {x y : Str} (h : ltS x y = true) : x ≠ y := fun e => by rw [e, ltS_irr] at h; cases h
theorem ltR_irr : ∀ x : List Str, ltR x x = false
  | [] => rfl
  | x :: xs => by unfold ltR; rw [if_pos rfl]; exact ltR_irr xs
theorem ltR_asym : ∀ {x y : List Str}, ltR x y = true → ltR y x = false
  | [], [], h => by cases h
  | [], _ :: _, _ => rfl
  | _ :: _, [], h => by cases h
  | x :: xs, y :: ys, h => by
    unfold ltR at h ⊢
    by_cases e : x = y
    · rw [if_pos e] at h
      rw [if_pos e.symm]
      exact ltR_asym h
    · rw [if_neg e] at h
      rw [if_neg fun z => e z.symm]
      exact ltS_asym h
theorem ltR_tri : ∀ {x y : List Str}, x ≠ y → ltR x y = false → ltR y x = true
  | [], [], h, _ => absurd rfl h
  | [], _ :: _, _, h => by cases h
  | _ :: _, [], _, _ => rfl
  | x :: xs, y :: ys, h, h2 => by
    unfold ltR at h2 ⊢
    by_cases e : x = y
    · rw [if_pos e] at h2
      rw [if_pos e.symm]
      exact ltR_tri (fun z => h (by rw [e, z])) h2
    · rw [if_neg e] at h2
      rw [if_neg fun z => e z.symm]
      exact ltS_tri e h2
theorem ltR_trans : ∀ {x y z : List Str}, ltR x y = true → ltR y z = true → ltR x z = true
  | _, [], [], _, h => by cases h
  | [], [], _ :: _, h, _ => by cases h
  | _ :: _, [], _, h, _ => by cases h
  | [], _ :: _, [], _, h => by cases h
  | [], _ :: _, _ :: _, _, _ => rfl
  | _ :: _, _ :: _, [], _, h => by cases h
  | x :: xs, y :: ys, z :: zs, h, h2 => by
    unfold ltR at h h2 ⊢
    by_cases e : x = y
    · subst e
      rw [if_pos rfl] at h
      by_cases e2 : x = z
      · rw [if_pos e2] at h2 ⊢
        exact ltR_trans h h2
      · rw [if_neg e2] at h2 ⊢
        exact h2
    · rw [if_neg e] at h
      by_cases e2 : y = z
      · subst e2
        rw [if_neg e]
        exact h
      · rw [if_neg e2] at h2
        have q := ltS_trans h h2
        rw [if_neg (ltS_ne q)]
        exact q
theorem leD_total (a b : D) : leD a b = true ∨ leD b a = true := by
  unfold leD
  cases h : ltR (keyD b) (keyD a) with
  | false => exact .inl rfl
  | true => exact .inr (by rw [ltR_asym h]; rfl)
theorem leD_trans (a b c : D) (h : leD a b = true) (h2 : leD b c = true) : leD a c = true := by
  unfold leD at *
  rw [Bool.not_eq_true'] at *
  cases q : ltR (keyD c) (keyD a) with
  | false => rfl
  | true =>
    by_cases e : keyD b = keyD c
    · rw [e, q] at h; cases h
    · have h3 := ltR_tri (fun z => e z.symm) h2
      rw [ltR_trans h3 q] at h
      cases h
theorem leD_anti {ds : List D} (hk : Kin ds) : ∀ a ∈ ds, ∀ b ∈ ds, leD a b = true → leD b a = true → a = b := fun a ha b hb h1 h2 => by
  unfold leD at h1 h2
  rw [Bool.not_eq_true'] at h1 h2
  refine key_inj (hk.two ha hb) (Classical.byContradiction fun e => ?_)
  rw [ltR_tri e h2] at h1
  cases h1
open PySem.W in
theorem sort_eq {ds : List D} (hk : Kin ds) : ds.mergeSort (dataLe false encD) = isort leD ds := by
  rw [sort_congr (s := leD) fun a ha b hb => ?_]
  · refine sorted_uniq ((List.mergeSort_perm ds leD).trans (isort_perm leD ds).symm) ?_ (isort_sorted leD_trans leD_total ds) fun a ha b hb => leD_anti hk a ((List.mergeSort_perm ds leD).mem_iff.mp ha) b ((List.mergeSort_perm ds leD).mem_iff.mp hb)
    exact List.pairwise_mergeSort leD_trans (fun a b => by rcases leD_total a b with h | h <;> simp [h]) ds
  · show (!dataLt (encD b) (encD a)) = leD a b
    rw [lt_enc (hk.two hb ha)]
    rfl
theorem sortD_some {ds es : List D} (h : sortD ds = some es) : Kin ds ∧ es = isort leD ds ∧ ds.length ≤ sizeLine := by
  unfold sortD at h
  split at h
  · next q =>
    cases h
    obtain ⟨q1, q2⟩ := Bool.and_eq_true_iff.mp q
    refine ⟨?_, rfl, Nat.le_trans (of_decide_eq_true q2) (by decide)⟩
    rcases Bool.or_eq_true_iff.mp q1 with q1 | q1
    · rcases Bool.or_eq_true_iff.mp q1 with q1 | q1
      · exact .inl (List.all_eq_true.mp q1)
      · exact .inr (.inl (List.all_eq_true.mp q1))
    · exact .inr (.inr (List.all_eq_true.mp q1))
  · cases h
end MM
/-! S2 -/
namespace MM
open PySem PySem.Spec PyProof.Rows L2

/-! ## sorted -/
/-- of a kind that can be sorted -/
def One (d : D) : Prop := isS d = true ∨ isT d = true ∨ isP d = true
theorem encP (x y : Str) : encD (.pr (.str x) (.str y)) = .tuple ([x, y].map .str) := rfl
theorem reads_str {h : Heap} {v : Value} {x : Str} {as : List Addr} (r : Reads h v (.str x) as) : as = [] := by
  cases r; rfl
theorem reads_strs {h : Heap} : ∀ {xs : List Str} {vs : List Value} {as : List Addr}, ReadsAll h vs (xs.map .str) as → as = []
  | [], _, _, r => by cases r; rfl
  | x :: xs, vs, as, r => by
    rw [List.map_cons] at r
    cases r with
    | cons h t => rw [reads_str h, reads_strs t]; rfl
theorem reads_kin {h : Heap} {v : Value} {d : D} {as : List Addr} (hk : One d) (r : Reads h v (encD d) as) : as = [] := by
  rcases hk with hk | hk | hk
  · obtain ⟨s, rfl⟩ := isS_some hk
    exact reads_str r
  · obtain ⟨ds, x, xs, rfl, e⟩ := isT_some hk
    have q : encD (.tup ds) = .tuple ((x :: xs).map .str) := by
      unfold encD toPy
      rw [toPys_txts e]; rfl
    rw [q] at r
    cases r with
    | tuple _ _ _ r => exact reads_strs r
  · obtain ⟨x, y, rfl⟩ := isP_some hk
    rw [encP] at r
    cases r with
    | tuple _ _ _ r => exact reads_strs r
theorem toPy_kin {d : D} (hk : One d) : toPy d = some (encD d) := by
  rcases hk with hk | hk | hk
  · obtain ⟨s, rfl⟩ := isS_some hk
    rfl
  · obtain ⟨ds, x, xs, rfl, e⟩ := isT_some hk
    unfold encD toPy
    rw [toPys_txts e]; rfl
  · obtain ⟨x, y, rfl⟩ := isP_some hk
    rfl
theorem Kin.one {ds : List D} (h : Kin ds) {d : D} (hd : d ∈ ds) : One d := by
  rcases h with h | h | h
  · exact .inl (h d hd)
  · exact .inr (.inl (h d hd))
  · exact .inr (.inr (h d hd))
open PySem.W in
theorem alikes : ∀ xs ys : List Str, alikeAll (xs.map .str) (ys.map .str) = true
  | [], _ => by simp [alikeAll]
  | _ :: _, [] => by simp [alikeAll]
  | x :: xs, y :: ys => by
    show alikeAll (.str x :: xs.map .str) (.str y :: ys.map .str) = true
    rw [alikeAll, alikes xs ys]
    simp [alike]
open PySem.W in
theorem alike_kin {ds : List D} (hk : Kin ds) : AllAlike (ds.map encD) := by
  intro p hp q hq
  obtain ⟨a, ha, rfl⟩ := List.mem_map.mp hp
  obtain ⟨b, hb, rfl⟩ := List.mem_map.mp hq
  rcases hk.two ha hb with ⟨h1, h2⟩ | ⟨h1, h2⟩ | ⟨h1, h2⟩
  · obtain ⟨s, rfl⟩ := isS_some h1
    obtain ⟨s', rfl⟩ := isS_some h2
    show alike (.str s) (.str s') = true
    simp [alike]
  · obtain ⟨ds, x, xs, rfl, e1⟩ := isT_some h1
    obtain ⟨es, y, ys, rfl, e2⟩ := isT_some h2
    have q1 : encD (.tup ds) = .tuple ((x :: xs).map .str) := by
      unfold encD toPy
      rw [toPys_txts e1]; rfl
    have q2 : encD (.tup es) = .tuple ((y :: ys).map .str) := by
      unfold encD toPy
      rw [toPys_txts e2]; rfl
    rw [q1, q2]
    show alike (.tuple ((x :: xs).map .str)) (.tuple ((y :: ys).map .str)) = true
    rw [alike]
    exact alikes (x :: xs) (y :: ys)
  · obtain ⟨x, y, rfl⟩ := isP_some h1
    obtain ⟨x', y', rfl⟩ := isP_some h2
    show alike (.tuple ([x, y].map .str)) (.tuple ([x', y'].map .str)) = true
    rw [alike]
    exact alikes [x, y] [x', y']
open PySem.W in
theorem sortable_kin {ds : List D} (hk : Kin ds) : Sortable (ds.map encD) := by
  rcases hk with hk | hk | hk
  · refine .inr fun p hp => ?_
    obtain ⟨a, ha, rfl⟩ := List.mem_map.mp hp
    obtain ⟨s, rfl⟩ := isS_some (hk a ha)
    exact ⟨fun z => (nomatch z), fun xs z => (nomatch z)⟩
  · refine .inl fun p hp => ?_
    obtain ⟨a, ha, rfl⟩ := List.mem_map.mp hp
    obtain ⟨es, x, xs, rfl, e1⟩ := isT_some (hk a ha)
    refine ⟨.str x, xs.map .str, ?_⟩
    unfold encD toPy
    rw [toPys_txts e1]; rfl
  · refine .inl fun p hp => ?_
    obtain ⟨a, ha, rfl⟩ := List.mem_map.mp hp
    obtain ⟨x, y, rfl⟩ := isP_some (hk a ha)
    exact ⟨.str x, [.str y], rfl⟩
theorem depths : ∀ xs : List Str, PyData.depthAll (xs.map .str) = 0
  | [] => by simp [PyData.depthAll]
  | x :: xs => by
    show PyData.depthAll (.str x :: xs.map .str) = 0
    rw [PyData.depthAll, depths xs]
    simp [PyData.depth]
theorem depth_kin {d : D} (hk : One d) : (encD d).depth ≤ 1 := by
  rcases hk with hk | hk | hk
  · obtain ⟨s, rfl⟩ := isS_some hk
    show PyData.depth (.str s) ≤ 1
    simp [PyData.depth]
  · obtain ⟨ds, x, xs, rfl, e⟩ := isT_some hk
    have q : encD (.tup ds) = .tuple ((x :: xs).map .str) := by
      unfold encD toPy
      rw [toPys_txts e]; rfl
    rw [q]
    have := depths (x :: xs)
    simp only [PyData.depth]
    omega
  · obtain ⟨x, y, rfl⟩ := isP_some hk
    rw [encP]
    have := depths [x, y]
    simp only [PyData.depth]
    omega
section
variable {X : Cx} {pins : List (Addr × Obj)} {σ : L2.St} {H Hf : Hp} {s : Shared} {k : Kx} {ds es : List D} {vs : List Value} {ws : List V} {Q : VK} {E : Value → Shared → Prop}
open PySem.W in
theorem each_of (P : Value → D → Prop) : ∀ {ds : List D} {ws : List V} {vs : List Value}, (∀ d ∈ ds, ∀ w u, Rp k Hf d w → RelV w u → P u d) → RpA k Hf ds ws → Vals ws vs → EachIs P vs ds
  | [], _, _, _, .nil, .nil => .nil
  | d :: ds, _, _, h, .cons r rr, .cons v vv => .cons (h d List.mem_cons_self _ _ r v) (each_of P (fun d m => h d (List.mem_cons_of_mem _ m)) rr vv)
open PySem.W in
theorem of_each : ∀ {ds : List D} {vs : List Value}, EachIs (fun v d => ∃ w, RelV w v ∧ Rp k Hf d w) vs ds → ∃ ws, Vals ws vs ∧ RpA k Hf ds ws
  | _, _, .nil => ⟨[], .nil, .nil⟩
  | _, _, .cons ⟨w, h1, h2⟩ t => by
    obtain ⟨ws, h3, h4⟩ := of_each t
    exact ⟨w :: ws, .cons h1 h3, .cons h2 h4⟩
/-- list.sort of a list just laid -/
theorem sort_laid (I : Inv X pins σ H s) (hu : X.A.units + 64 < cLine) (ex : Ex Hf H) (rv : Vals ws vs) (ra : RpA k Hf ds ws) (hs : sortD ds = some es)
    (q : ∀ l ws', H l = none → RpA k Hf es ws' → Q (.ref l) (upd H l (.lst ws'))) :
    wpAny (model X.prog X.w) X.A.in1 (call (.builtin "list.sort") [.ref s.heap.objs.size]) (fun _ s' => EP X pins σ Q (.ref s.heap.objs.size) s') E { s with heap := s.heap.push (PySem.W.listOf vs.toArray 0) } := by
  obtain ⟨hk, rfl, hz⟩ := sortD_some hs
  have hl : vs.length = ds.length := by rw [ra.length, rv.length]
  have at0 : (s.heap.push (PySem.W.listOf vs.toArray 0)).get? s.heap.objs.size = some (seqObj "list" vs.toArray 0) := Heap.get?_push_size _ rfl
  refine PySem.W.list_sort_data (s := { s with heap := s.heap.push (PySem.W.listOf vs.toArray 0) }) (enc := encD) (bs := ds) (R := fun v d => ∃ w, RelV w v ∧ Rp k Hf d w) at0
    (each_of _ (fun d _ w u r v => ⟨w, v, r⟩) ra rv) (each_of _ (fun d hd w u r v => ?_) ra rv) (alike_kin hk) (sortable_kin hk) hz (fun d hd => ?_) fun out ho eo => ?_
  · obtain ⟨as, rd⟩ := Dp.reads I (encD d) w u (dp_of (K := X.K) (r.ex ex) (toPy_kin (hk.one hd))) v
    have e := reads_kin (hk.one hd) rd
    subst e
    exact ⟨[], PyProof.Rows.Reads.keeps (fun b o e => Heap.get?_push_of_some _ e) rd, fun z => nomatch z⟩
  · have h1 := depth_kin (hk.one hd)
    have h2 : X.A.in1.units ≤ X.A.units + 1 := by first | exact Nat.le_refl _ | (show X.A.units ≤ X.A.units + 1; omega)
    omega
  · rw [sort_eq hk] at eo
    obtain ⟨ws', h1, h2⟩ := of_each eo
    obtain ⟨n, hn⟩ := sortedHeap_at (out := out.toArray) at0
    have sz : (s.heap.push (PySem.W.listOf vs.toArray 0)).objs.size = s.heap.objs.size + 1 := Heap.size_push _ _
    have old : ∀ b o, s.heap.get? b = some o → (sortedHeap (s.heap.push (PySem.W.listOf vs.toArray 0)) s.heap.objs.size vs out.toArray).get? b = some o := fun b o e => by
      have hb := Heap.lt_size e
      rw [sortedHeap_old (Nat.ne_of_lt hb) (by rw [sz]; exact Nat.lt_succ_of_lt hb)]
      exact Heap.get?_push_of_some _ e
    have hz' : ws'.length ≤ sizeLine := by rw [h1.length, ho]; exact hz
    exact ⟨.ref s.heap.objs.size, _, I.laid (t' := s.toks) (o := .lst ws') old (Nat.le_refl _) (show ObjOk X.prog X.w _ _ _ (.lst ws') from ⟨hz', out, n, h1, hn⟩), rfl, q _ _ (I.hok.fresh (Nat.le_refl _)) h2⟩
/-- sorted of what can be gone through -/
theorem sorted_src {a : Addr} {P : Hp → List V → Prop} (hu : X.A.units + 64 < cLine)
    (hc : ∀ R : List Value → Shared → Prop, (∀ vs s' H1 ws, Inv X pins σ H1 s' → Vals ws vs → vs.length ≤ sizeLine → P H1 ws → R vs s') → wpAny (model X.prog X.w) X.A.in1 (collect (.ref a)) R X.xe s)
    (hq : ∀ H1 ws, P H1 ws → ∃ Hf ds es, Ex Hf H1 ∧ RpA k Hf ds ws ∧ sortD ds = some es ∧ ∀ l ws', H1 l = none → RpA k Hf es ws' → Q (.ref l) (upd H1 l (.lst ws'))) :
    wpAny (model X.prog X.w) X.A (call (.builtin "sorted") [.ref a]) (EP X pins σ Q) X.xe s := by
  refine Calls.call_function_entry kind_sorted plain_sorted entry_sorted (args_sorted1 _) ?_
  unfold Builtin.«sorted»
  refine wpAny_bind (m := checkCount "sorted" 1 1 _) (wpAny_pure (wpAny_bind (hc _ fun vs s' H1 ws I1 rv hz hp => ?_)))
  obtain ⟨Hf, ds, es, ex, ra, hs, q⟩ := hq H1 ws hp
  refine wpAny_bind (wpAny_newList (wpAny_bind (wpAny_holding (wpAny_mono (sort_laid I1 hu ex rv ra hs q) (fun _ s2 x => ?_) fun _ _ e => e))) hz)
  exact wpAny_pure ⟨_, rfl, x⟩
end
end MM
/-! S3 -/
namespace MM
open PySem PySem.Spec PyProof.Rows L2
def valsO (p d : Addr) : HO := .ext fun h => h.IsValuesView p d
section
variable {X : Cx} {pins : List (Addr × Obj)} {σ : L2.St} {H : Hp} {s : Shared}
/-! ## d.values(), d.items() -/
def rView (o : Addr → Addr → HO) : V → List V → Hp → VK → Prop := fun x xs H Q => ∃ (a : Addr) (kvs : List (Key × V)), x = .ref a ∧ xs = [] ∧ H a = some (.dK kvs) ∧ ∀ p, H p = none → Q (.ref p) (upd H p (o p a))
theorem valsO_ok {P : Program} {w : World} {h : Heap} {p d : Addr} (e : h.get? p = some { cls := .type "dict_values", data := .fields #[.ref d] }) : ObjOk P w H h p (valsO p d) :=
  ⟨⟨_, e, rfl, rfl⟩, ⟨_, e⟩, fun _ _ x k => x.elim fun o q => ⟨o, k o q.1, q.2⟩⟩
theorem mt_vals : MtR X "dict.values" (rView valsO) := by
  intro pins s σ H x xs v us Q I rx rxs h
  obtain ⟨a, kvs, rfl, rfl, ha, q⟩ := h
  cases rx
  cases rxs
  obtain ⟨z, lo, vs, rel, dd⟩ := dk_rd I.hok (.inl ha)
  refine PySem.call_meetsIn PySem.F.slot_dict_values dd.typeIs PySem.F.entry_dict_values (PySem.F.args_dict_values_1 _) (meets_dict_values (mixKind X.prog X.w) a lo) ⟨⟨vs, dd⟩, ?_⟩
  exact ⟨.ref s.heap.objs.size, _, I.laid (t' := s.toks) (o := valsO s.heap.objs.size a) (fun b u e => Heap.get?_push_of_some _ e) (Nat.le_refl _) (valsO_ok (Heap.get?_push_size _ rfl)), rfl, q _ (I.hok.fresh (Nat.le_refl _))⟩
theorem mt_itms : MtR X "dict.items" (rView DX.itemsO) := by
  intro pins s σ H x xs v us Q I rx rxs h
  obtain ⟨a, kvs, rfl, rfl, ha, q⟩ := h
  cases rx
  cases rxs
  obtain ⟨z, lo, vs, rel, dd⟩ := dk_rd I.hok (.inl ha)
  refine PySem.call_meetsIn PySem.F.slot_dict_items dd.typeIs PySem.F.entry_dict_items (PySem.F.args_dict_items_1 _) (meets_dict_items (mixKind X.prog X.w) a lo) ⟨⟨vs, dd⟩, ?_⟩
  exact ⟨.ref s.heap.objs.size, _, I.laid (t' := s.toks) (o := DX.itemsO s.heap.objs.size a) (fun b u e => Heap.get?_push_of_some _ e) (Nat.le_refl _) (DX.itemsO_ok (Heap.get?_push_size _ rfl)), rfl, q _ (I.hok.fresh (Nat.le_refl _))⟩
theorem vals_kv : ∀ {kvs : List (Key × V)} {vs : List (Key × Value)} {us : List Value}, KV kvs vs → us.length = vs.length → (∀ (j : Nat) (u : Value), us[j]? = some u → ∃ kk, vs[j]? = some (kk, u)) → Vals (kvs.map (·.2)) us
  | _, _, [], .nil, _, _ => .nil
  | _, _, _ :: _, .nil, h, _ => by simp at h
  | _, _, [], .cons _ _, h, _ => by simp at h
  | p :: kvs, (kk, u0) :: vs, u :: us, .cons h t, hl, hj => by
    obtain ⟨k0, e0⟩ := hj 0 u rfl
    simp only [List.getElem?_cons_zero, Option.some.injEq, Prod.mk.injEq] at e0
    obtain ⟨_, rfl⟩ := e0
    exact .cons h.2 (vals_kv t (by simpa using hl) fun j u hu => by
      obtain ⟨k1, e1⟩ := hj (j + 1) u (by simpa using hu)
      exact ⟨k1, by simpa using e1⟩)
def rListV : List V → Hp → VK → Prop := fun xs H Q => ∃ (p a : Addr) (kvs : List (Key × V)), xs = [.ref p] ∧ H p = some (valsO p a) ∧ H a = some (.dK kvs) ∧ ∀ l, H l = none → Q (.ref l) (upd H l (.lst (kvs.map (·.2))))
theorem cr_listV (hc : X.calm = true) : CallR X (.type "list") rListV := by
  intro pins s σ H xs us Q I r h
  obtain ⟨p, a, kvs, rfl, hp, ha, q⟩ := h
  obtain rfl := Vals.ref1 r
  have view : s.heap.IsValuesView p a := (show ObjOk X.prog X.w H s.heap p (valsO p a) from I.hok p _ hp).1
  obtain ⟨z, lo, vs, rel, dd⟩ := dk_rd I.hok (.inl ha)
  obtain ⟨ep, hat⟩ := dd.dictAt
  have hz : vs.length ≤ sizeLine := by rw [← rel.length]; exact z
  refine PySem.W.kdl_call (PySem.W.kdl_values (kvs := vs) (ep := ep)) (I.ok.hd hc) ⟨view, hat⟩ hz fun h' tk acc c hk hS hacc => ?_
  have rv : Vals (kvs.map (·.2)) acc.toList := vals_kv rel (by rw [Array.length_toList]; exact hacc.1) fun j u hu => hacc.2 j u (by rw [← Array.getElem?_toList]; exact hu)
  refine ⟨.ref s.heap.objs.size, _, I.laid (t' := tk) (o := .lst (kvs.map (·.2))) hk (Nat.le_refl _) (show ObjOk X.prog X.w _ _ _ (.lst (kvs.map (·.2))) from ⟨by rw [List.length_map]; exact z, acc.toList, c, rv, ?_⟩), rfl, q _ (I.hok.fresh (Nat.le_refl _))⟩
  rw [Array.toArray_toList]
  exact hS

/-! ## sorted, of each source -/
/-- the list that is sorted, at its heap -/
def rSortQ (k : Kx) (P : List V → Hp → Hp → List V → Prop) : List V → Hp → VK → Prop := fun xs H Q => ∀ H1 ws, P xs H H1 ws → ∃ Hf ds es, Ex Hf H1 ∧ RpA k Hf ds ws ∧ sortD ds = some es ∧ ∀ l ws', H1 l = none → RpA k Hf es ws' → Q (.ref l) (upd H1 l (.lst ws'))
theorem cr_sortSeq {k : Kx} (hu : X.A.units + 64 < cLine) : CallR X (.builtin "sorted") (fun xs H Q => ∃ (p : Addr) (ys : List V), xs = [.ref p] ∧ (H p = some (.lst ys) ∨ Rd H p (.tup ys)) ∧ rSortQ k (fun _ H H1 ws => H1 = H ∧ ws = ys) xs H Q) := by
  intro pins s σ H xs us Q I r h
  obtain ⟨p, ys, rfl, hp, q⟩ := h
  obtain rfl := Vals.ref1 r
  refine sorted_src (k := k) (P := fun H1 ws => H1 = H ∧ ws = ys) hu (fun R hR => ?_) q
  rcases hp with hp | hp
  · obtain ⟨its, rv, pl, hz⟩ := I.list (.inl (.inl hp))
    obtain ⟨o, ho, hc, n, hd⟩ := pl.isList
    refine wpAny_collect_seq p (.inl rfl) ho hc hd (fun h' hk => hR _ _ H ys (I.kept (t' := s.toks) hk) (by simpa using rv) (by simpa [← rv.length] using hz) ⟨rfl, rfl⟩) (by simpa [← rv.length] using hz)
  · obtain ⟨its, rv, pl, hz⟩ := I.tuple (.inl hp)
    obtain ⟨o, ho, hc, n, hd⟩ := pl
    refine wpAny_collect_seq p (.inr rfl) ho hc hd (fun h' hk => hR _ _ H ys (I.kept (t' := s.toks) hk) (by simpa using rv) (by simpa [← rv.length] using hz) ⟨rfl, rfl⟩) (by simpa [← rv.length] using hz)
theorem cr_sortVals {k : Kx} (hc : X.calm = true) (hu : X.A.units + 64 < cLine) : CallR X (.builtin "sorted") (fun xs H Q => ∃ (p a : Addr) (kvs : List (Key × V)), xs = [.ref p] ∧ H p = some (valsO p a) ∧ H a = some (.dK kvs) ∧ rSortQ k (fun _ H H1 ws => H1 = H ∧ ws = kvs.map (·.2)) xs H Q) := by
  intro pins s σ H xs us Q I r h
  obtain ⟨p, a, kvs, rfl, hp, ha, q⟩ := h
  obtain rfl := Vals.ref1 r
  have view : s.heap.IsValuesView p a := (show ObjOk X.prog X.w H s.heap p (valsO p a) from I.hok p _ hp).1
  obtain ⟨z, lo, vs, rel, dd⟩ := dk_rd I.hok (.inl ha)
  obtain ⟨ep, hat⟩ := dd.dictAt
  have hz : vs.length ≤ sizeLine := by rw [← rel.length]; exact z
  refine sorted_src (k := k) (P := fun H1 ws => H1 = H ∧ ws = kvs.map (·.2)) hu (fun R hR => ?_) q
  refine PySem.W.kdu_collect (A := X.A.in1) (PySem.W.kdl_values (kvs := vs) (ep := ep)) (I.ok.hd hc) ⟨view, hat⟩ hz fun h' tk acc hk hacc => ?_
  have hl : acc.toList.length = vs.length := by rw [Array.length_toList]; exact hacc.1
  exact hR _ _ H _ (I.kept (t' := tk) hk) (vals_kv rel hl fun j u hu => hacc.2 j u (by rw [← Array.getElem?_toList]; exact hu)) (by rw [hl]; exact hz) ⟨rfl, rfl⟩
/-- tuples that were laid come to be known, nothing else -/
theorem takeU {H0 : Hp} {h' : Heap} {tk : Nat} {P : Addr → List V → Prop} (I0 : Inv X pins σ H0 s) : ∀ (L : List Addr) (H1 : Hp), Inv X pins σ H1 { s with heap := h', toks := tk } → L.Nodup →
    (∀ a ∈ L, s.heap.objs.size ≤ a ∧ H1 a = none ∧ ∃ vs, P a vs ∧ ∀ H2, ObjOk X.prog X.w H2 h' a (.tup vs)) →
    ∃ H2, Inv X pins σ H2 { s with heap := h', toks := tk } ∧ Ex H1 H2 ∧ (∀ a ∈ L, ∃ vs, P a vs ∧ H2 a = some (.tup vs)) ∧ ∀ b, b ∉ L → H2 b = H1 b
  | [], H1, I1, _, _ => ⟨H1, I1, Same.refl _, fun _ h => (nomatch h), fun _ _ => rfl⟩
  | a :: L, H1, I1, nd, h => by
    obtain ⟨hb, hn, vs, hP, ok⟩ := h a List.mem_cons_self
    obtain ⟨na, nd'⟩ := List.nodup_cons.mp nd
    have I2 := I1.take (h' := h') (t' := tk) (o := .tup vs) (fun b ob _ e => e) (I0.fpOk hb hn) (ok _)
    obtain ⟨H2, I3, ex, g, out⟩ := takeU I0 L _ I2 nd' fun c hc => by
      obtain ⟨c1, c2, c3⟩ := h c (List.mem_cons_of_mem _ hc)
      exact ⟨c1, by rw [upd_ne (fun z => na (by rw [← z]; exact hc))]; exact c2, c3⟩
    refine ⟨H2, I3, (ex_new hn).trans ex, fun c hc => ?_, fun b hb => ?_⟩
    · rcases List.mem_cons.mp hc with rfl | hc
      · exact ⟨vs, hP, ex _ _ upd_same⟩
      · exact g c hc
    · rw [out b fun z => hb (List.mem_cons_of_mem _ z), upd_ne fun z => hb (by rw [z]; exact List.mem_cons_self)]
/-- the new pairs of d.items() -/
def Prs (H H1 : Hp) (kvs : List (Key × V)) (ws : List V) : Prop := Ex H H1 ∧ ∃ as : List Addr, ws = as.map V.ref ∧ (∀ a ∈ as, H a = none) ∧ Paired (fun (a : Addr) (kv : Key × V) => H1 a = some (.tup [kV kv.1, kv.2])) as kvs ∧ ∀ b ps, H1 b = some (.tbl ps) → H b = some (.tbl ps)
theorem paired_of {α β : Type} {F : α → β → Prop} : ∀ {l : List α} {m : List β}, l.length = m.length → (∀ (j : Nat) (a : α) (b : β), l[j]? = some a → m[j]? = some b → F a b) → Paired F l m
  | [], [], _, _ => .nil
  | [], _ :: _, h, _ => by simp at h
  | _ :: _, [], h, _ => by simp at h
  | a :: l, b :: m, h, f => .cons (f 0 a b rfl rfl) (paired_of (by simpa using h) fun j a b h1 h2 => f (j + 1) a b (by simpa using h1) (by simpa using h2))
theorem cr_sortItms {k : Kx} (hc : X.calm = true) (hu : X.A.units + 64 < cLine) : CallR X (.builtin "sorted") (fun xs H Q => ∃ (p a : Addr) (kvs : List (Key × V)), xs = [.ref p] ∧ H p = some (DX.itemsO p a) ∧ H a = some (.dK kvs) ∧ rSortQ k (fun _ H H1 ws => Prs H H1 kvs ws) xs H Q) := by
  intro pins s σ H xs us Q I r h
  obtain ⟨p, a, kvs, rfl, hp, ha, q⟩ := h
  obtain rfl := Vals.ref1 r
  have view : s.heap.IsItemsView p a := (show ObjOk X.prog X.w H s.heap p (DX.itemsO p a) from I.hok p _ hp).1
  obtain ⟨z, lo, vs, rel, dd⟩ := dk_rd I.hok (.inl ha)
  obtain ⟨ep, hat⟩ := dd.dictAt
  have l1 : kvs.length = vs.length := rel.length
  have hz : vs.length ≤ sizeLine := by rw [← l1]; exact z
  refine sorted_src (k := k) (P := fun H1 ws => Prs H H1 kvs ws) hu (fun R hR => ?_) q
  refine PySem.W.kdx_collect (A := X.A.in1) (knd := mixKind X.prog X.w) (kvs := vs) (ep := ep) (I.ok.hd hc) view hat hz fun h' tk as hk hl hG => ?_
  have nd : as.Nodup := List.Pairwise.imp (fun h => Nat.ne_of_lt h) hG.rise
  have I1 : Inv X pins σ H { s with heap := h', toks := tk } := I.kept hk
  have pr : ∀ (j : Nat) (b : Addr) (kv : Key × V), as[j]? = some b → kvs[j]? = some kv → ∃ key u, RelV (kV kv.1) key ∧ RelV kv.2 u ∧ h'.get? b = some { cls := .type "tuple", data := .seq #[key, u] } := fun j b kv hj hkv => by
    obtain ⟨key, kk, x, e1, e2, e3⟩ := hG.pairs j b hj
    obtain ⟨⟨k2, x2⟩, e4, e5, e6⟩ := paired_get rel hkv
    rw [e1] at e4
    cases e4
    exact ⟨key, x, by rw [e5]; exact relV_key e2, e6, e3⟩
  obtain ⟨H2, I2, g, tk2, out⟩ := takeU (P := fun b ws => ∃ (j : Nat) (kv : Key × V), as[j]? = some b ∧ kvs[j]? = some kv ∧ ws = [kV kv.1, kv.2]) I as H I1 nd fun b hb => by
    have above := hG.above b hb
    obtain ⟨j, hj⟩ := List.mem_iff_getElem?.mp hb
    have hjl : j < kvs.length := by
      have := (List.getElem?_eq_some_iff.mp hj).1
      omega
    obtain ⟨key, u, r1, r2, e⟩ := pr j b kvs[j] hj (List.getElem?_eq_getElem hjl)
    exact ⟨Nat.le_of_lt above, I.hok.fresh (Nat.le_of_lt above), _, ⟨j, kvs[j], hj, List.getElem?_eq_getElem hjl, rfl⟩, fun H2 => ⟨by show 2 ≤ sizeLine; decide, [key, u], .cons r1 (.cons r2 .nil), ⟨_, e, rfl, _, rfl⟩⟩⟩
  have vr : ∀ l : List Addr, Vals (l.map V.ref) (l.map Value.ref) := fun l => by
    induction l with
    | nil => exact .nil
    | cons a l ih => exact .cons rfl ih
  refine hR _ _ H2 _ I2 (vr as) (by rw [List.length_map, hl]; exact hz) ⟨g, as, rfl, fun b hb => I.hok.fresh (Nat.le_of_lt (hG.above b hb)), paired_of (by rw [hl, l1]) fun j b kv h1 h2 => ?_, fun b ps e => ?_⟩
  rotate_left
  · by_cases hb : b ∈ as
    · obtain ⟨ws, _, e2⟩ := tk2 b hb
      rw [e2] at e
      cases e
    · rw [← out b hb]
      exact e
  obtain ⟨ws, ⟨j', kv', e1, e2, rfl⟩, e3⟩ := tk2 b (List.mem_iff_getElem?.mpr ⟨j, h1⟩)
  have ej : j' = j := by
    obtain ⟨b1, b2⟩ := List.getElem?_eq_some_iff.mp e1
    obtain ⟨c1, c2⟩ := List.getElem?_eq_some_iff.mp h1
    have ord := List.pairwise_iff_getElem.mp hG.rise
    rcases Nat.lt_trichotomy j' j with q | q | q
    · have z := ord j' j b1 c1 q
      rw [b2, c2] at z
      exact absurd z (Nat.lt_irrefl _)
    · exact q
    · have z := ord j j' c1 b1 q
      rw [b2, c2] at z
      exact absurd z (Nat.lt_irrefl _)
  subst ej
  rw [e2] at h2
  cases h2
  exact e3
end
end MM
/-! S4 -/
namespace MM
open PySem PySem.Spec PyProof.Rows L2
section
variable {T : Type} {k : Kx} {C : Cell T} {E0 En H0 H H0' H' : Hp} {σ : L2.St} {ρ : Env} {t t' : T} {d : D} {v : V} {ds : List D} {vs : List V} {ks : List (Str × D)} {kvs : List (Key × V)} {l : Addr}
variable {X : Cx} {a b c e : Expr} {es : List Expr} {pos p2 : Pos} {fa fb fc : Env → M T D}
/-- new objects, all frozen -/
def grow (H0 H H2 : Hp) : Hp := fun a => match H a with
  | none => H2 a
  | some _ => H0 a
theorem RS.grow (R : RS k C E0 En H0 H σ ρ t) (ex : Ex H H') (nt : ∀ b ps, H' b = some (.tbl ps) → H b = some (.tbl ps)) : RS k C E0 En (grow H0 H H') H' σ ρ t ∧ Go C H0 H (grow H0 H H') H' := by
  have old : ∀ a u, H a = some u → MM.grow H0 H H' a = H0 a := fun a u e => by unfold MM.grow; rw [e]
  have b : Ex H0 (MM.grow H0 H H') := fun a u e => by rw [old a u (R.sub a u e)]; exact e
  have g : Go C H0 H (MM.grow H0 H H') H' := ⟨b, fun a u e _ => ex a u e, fun a e n => by
      cases q : H a with
      | none => exact absurd q e
      | some u => rw [old a u q]; exact n,
    (fun a z => by
      cases q : H a with
      | none => rfl
      | some u =>
        rw [ex a u q] at z
        cases z),
    fun a ps e => .inl ⟨ps, nt a ps e⟩⟩
  refine ⟨R.step g (fun a u e => ?_) (C.ext R.rep ex), g⟩
  cases q : H a with
  | none =>
    unfold MM.grow at e
    rw [q] at e
    exact e
  | some u' =>
    rw [old a u' q] at e
    exact ex a u (R.sub a u e)
/-! ## sorted -/
theorem el_sorted {p : Pos} (hu : X.A.units + 64 < cLine) (hm : X.mg "sorted" = none) (ha : EB k C X a fa) (hg : Gl X "sorted" := by rfl) (he : starEach [a] X.env = (false, eval a X.env) :: starEach [] X.env := by rfl) :
    EL k C X (.Call (.Name "sorted" p) [a] [] pos) (fun ρ => bnd (fa ρ) fun x => bnd (lft (seqOf x)) fun ds => lft (sortD ds)) :=
  pe_imp (pe_callB (cr_sortSeq (k := k) hu) hg hm (by rfl) (ea_one ha he) (by decide) (by decide) he (by first | rfl | simp [starEach, backTo])) fun σ H Q ⟨E0, En, H0, ρ, t, d, t', R, ev, q⟩ => by
  obtain ⟨x, t1, e1, ev1⟩ := bnd_some ev
  obtain ⟨ds, t2, e2, ev2⟩ := bnd_some ev1
  obtain ⟨e3, rfl⟩ := lft_some e2
  obtain ⟨e4, rfl⟩ := lft_some ev2
  refine ⟨E0, En, H0, ρ, t, x, _, R, e1, fun H1 H1' v R1 g1 r1 => ?_⟩
  obtain ⟨l, vs, rfl, hl, r⟩ := r1.seq R1 e3
  refine ⟨l, vs, rfl, hl, fun H2 ws hw => ?_⟩
  obtain ⟨rfl, rfl⟩ := hw
  refine ⟨H1, ds, d, R1.sub, r, e4, fun l' ws' hl' r' => ?_⟩
  obtain ⟨R2, g2⟩ := R1.newO (.lst ws') hl'
  exact q _ _ _ _ R2 (g1.trans g2) (g1.trk l' hl') (R1.fresh hl').2.1 upd_same r'
/-! ## views -/
def tVw (k : Kx) (C : Cell T) (o : Addr → Addr → HO) (f : Env → M T (List (Str × D))) : TE := fun σ H Q => ∃ E0 En H0 ρ t d t', RS k C E0 En H0 H σ ρ t ∧ f ρ t = some (d, t') ∧
  ∀ H0' H' p l kvs, RS k C E0 En H0' H' σ ρ t' → Go C H0 H H0' H' → H' p = some (o p l) → H' l = some (.dK kvs) → RpK k H0' d kvs → Q (.ref p) H'
theorem vw_of {o : Addr → Addr → HO} (no : ∀ a b, NT (o a b)) {name : Str} {id : String} {apos cpos : Pos} (slot : Slot "dict" name id) (hty : typeOf (.builtin id) = pure (.type "method_descriptor")) (hm : MtR X id (rView o)) (ha : EB k C X a fa)
    (hbase : attributeBase a name X.env (eval a X.env) = eval a X.env := by rfl) (hline : (apos.endLine == cpos.line) = true := by rfl) :
    PE X (.Call (.Attribute a name apos) [] [] cpos) (tVw k C o (fun ρ => bnd (fa ρ) fun x => lft (dctD x))) :=
  pe_imp (pe_bm0 PySem.F.plainAttrs_dict slot hty hm ha hbase hline) fun σ H Q ⟨E0, En, H0, ρ, t, d, t', R, ev, q⟩ => by
  obtain ⟨x, t1, e1, ev1⟩ := bnd_some ev
  obtain ⟨e2, rfl⟩ := lft_some ev1
  unfold dctD at e2
  split at e2
  · next ks =>
    cases e2
    refine ⟨E0, En, H0, ρ, t, _, t', R, e1, fun H1 H1' v R1 g1 r1 => ?_⟩
    obtain ⟨l, kvs, rfl, h1, nm, r⟩ := r1
    refine ⟨.inr (.inr (.inl ⟨rfl, .inl ⟨kvs, h1⟩⟩)), l, kvs, rfl, rfl, h1, fun p hp => ?_⟩
    obtain ⟨R2, g2⟩ := R1.newO (o p l) hp (no p l)
    exact q _ _ _ _ _ R2 (g1.trans g2) upd_same (by rw [upd_ne (ne_of_none h1 hp)]; exact h1) r
  · cases e2
theorem RpK.vals : ∀ {ks : List (Str × D)} {kvs : List (Key × V)}, RpK k H ks kvs → RpA k H (ks.map (·.2)) (kvs.map (·.2))
  | _, _, .nil => .nil
  | _, _, .cons h r => .cons h r.vals
def valsD (ks : List (Str × D)) : List D := ks.map (·.2)
def itmsD (ks : List (Str × D)) : List D := ks.map fun p => .pr (.str p.1) p.2
variable {f : Env → M T (List (Str × D))}
theorem pa_vw {o : Addr → Addr → HO} (h : PE X a (tVw k C o f)) (hs : starEach [a] X.env = (false, eval a X.env) :: starEach [] X.env := by rfl) : PA X [a] (fun σ H Q => ∃ E0 En H0 ρ t d t', RS k C E0 En H0 H σ ρ t ∧ f ρ t = some (d, t') ∧
    ∀ H0' H' p l kvs, RS k C E0 En H0' H' σ ρ t' → Go C H0 H H0' H' → H' p = some (o p l) → H' l = some (.dK kvs) → RpK k H0' d kvs → Q [.ref p] H') := pa_imp (pa_cons h pa_nil hs) fun σ H Q ⟨E0, En, H0, ρ, t, d, t', R, ev, q⟩ =>
  ⟨E0, En, H0, ρ, t, d, t', R, ev, fun H1 H1' p l kvs R1 g1 h1 h2 r1 => q _ _ _ _ _ R1 g1 h1 h2 r1⟩
/-- list(d.values()) -/
theorem el_listVals {p : Pos} (hc : X.calm = true) (hm : X.mg "list" = none) (ha : PE X a (tVw k C valsO f)) (hg : Gl X "list" := by rfl) (he : starEach [a] X.env = (false, eval a X.env) :: starEach [] X.env := by rfl) :
    EL k C X (.Call (.Name "list" p) [a] [] pos) (fun ρ => bnd (f ρ) fun ks => ret (valsD ks)) :=
  pe_imp (pe_callTy (cr_listV hc) hg hm (by rfl) (pa_vw ha he) (by decide) (by decide) he (by first | rfl | simp [starEach, backTo])) fun σ H Q ⟨E0, En, H0, ρ, t, d, t', R, ev, q⟩ => by
  obtain ⟨ks, t1, e1, ev1⟩ := bnd_some ev
  obtain ⟨rfl, rfl⟩ := ret_some ev1
  refine ⟨E0, En, H0, ρ, t, ks, _, R, e1, fun H1 H1' p l kvs R1 g1 h1 h2 r1 => ⟨p, l, kvs, rfl, h1, h2, fun l' hl' => ?_⟩⟩
  obtain ⟨R2, g2⟩ := R1.newO (.lst (kvs.map (·.2))) hl'
  exact q _ _ _ _ R2 (g1.trans g2) (g1.trk l' hl') (R1.fresh hl').2.1 upd_same r1.vals
/-- sorted(d.values()) -/
theorem el_sortVals {p : Pos} (hc : X.calm = true) (hu : X.A.units + 64 < cLine) (hm : X.mg "sorted" = none) (ha : PE X a (tVw k C valsO f)) (hg : Gl X "sorted" := by rfl) (he : starEach [a] X.env = (false, eval a X.env) :: starEach [] X.env := by rfl) :
    EL k C X (.Call (.Name "sorted" p) [a] [] pos) (fun ρ => bnd (f ρ) fun ks => lft (sortD (valsD ks))) :=
  pe_imp (pe_callB (cr_sortVals (k := k) hc hu) hg hm (by rfl) (pa_vw ha he) (by decide) (by decide) he (by first | rfl | simp [starEach, backTo])) fun σ H Q ⟨E0, En, H0, ρ, t, d, t', R, ev, q⟩ => by
  obtain ⟨ks, t1, e1, ev1⟩ := bnd_some ev
  obtain ⟨e2, rfl⟩ := lft_some ev1
  refine ⟨E0, En, H0, ρ, t, ks, _, R, e1, fun H1 H1' p l kvs R1 g1 h1 h2 r1 => ⟨p, l, kvs, rfl, h1, h2, fun H2 ws hw => ?_⟩⟩
  obtain ⟨rfl, rfl⟩ := hw
  refine ⟨H1, _, d, R1.sub, r1.vals, e2, fun l' ws' hl' r' => ?_⟩
  obtain ⟨R2, g2⟩ := R1.newO (.lst ws') hl'
  exact q _ _ _ _ R2 (g1.trans g2) (g1.trk l' hl') (R1.fresh hl').2.1 upd_same r'
theorem itms_rel {H1 Hf : Hp} : ∀ {ks : List (Str × D)} {kvs : List (Key × V)} {as : List Addr}, RpK k Hf ks kvs → Paired (fun (a : Addr) (kv : Key × V) => H1 a = some (.tup [kV kv.1, kv.2])) as kvs → (∀ a ∈ as, ∀ u, H1 a = some u → Hf a = some u) → RpA k Hf (itmsD ks) (as.map V.ref)
  | _, _, _, .nil, .nil, _ => .nil
  | _, _, _, .cons h r, .cons q t, f => .cons (.pr (f _ List.mem_cons_self _ q) (.str _) h) (itms_rel r t fun a ha => f a (List.mem_cons_of_mem _ ha))
/-- sorted(d.items()) -/
theorem el_sortItms {p : Pos} (hc : X.calm = true) (hu : X.A.units + 64 < cLine) (hm : X.mg "sorted" = none) (ha : PE X a (tVw k C DX.itemsO f)) (hg : Gl X "sorted" := by rfl) (he : starEach [a] X.env = (false, eval a X.env) :: starEach [] X.env := by rfl) :
    EL k C X (.Call (.Name "sorted" p) [a] [] pos) (fun ρ => bnd (f ρ) fun ks => lft (sortD (itmsD ks))) :=
  pe_imp (pe_callB (cr_sortItms (k := k) hc hu) hg hm (by rfl) (pa_vw ha he) (by decide) (by decide) he (by first | rfl | simp [starEach, backTo])) fun σ H Q ⟨E0, En, H0, ρ, t, d, t', R, ev, q⟩ => by
  obtain ⟨ks, t1, e1, ev1⟩ := bnd_some ev
  obtain ⟨e2, rfl⟩ := lft_some ev1
  refine ⟨E0, En, H0, ρ, t, ks, _, R, e1, fun H1 H1' p l kvs R1 g1 h1 h2 r1 => ⟨p, l, kvs, rfl, h1, h2, fun H2 ws hw => ?_⟩⟩
  obtain ⟨ex, as, rfl, fr, pr, nt⟩ := hw
  obtain ⟨R2, g2⟩ := R1.grow ex nt
  have r2 : RpA k (MM.grow H1 H1' H2) (itmsD ks) (as.map V.ref) := itms_rel (r1.ex g2.base) pr fun a ha u e => by
    unfold MM.grow
    rw [fr a ha]
    exact e
  refine ⟨MM.grow H1 H1' H2, _, d, R2.sub, r2, e2, fun l' ws' hl' r' => ?_⟩
  obtain ⟨R3, g3⟩ := R2.newO (.lst ws') hl'
  exact q _ _ _ _ R3 ((g1.trans g2).trans g3) (g1.trk l' (g2.trk l' hl')) (R2.fresh hl').2.1 upd_same r'
theorem vw_vals {apos cpos : Pos} (ha : EB k C X a fa) (hbase : attributeBase a "values" X.env (eval a X.env) = eval a X.env := by rfl) (hline : (apos.endLine == cpos.line) = true := by rfl) :
    PE X (.Call (.Attribute a "values" apos) [] [] cpos) (tVw k C valsO (fun ρ => bnd (fa ρ) fun x => lft (dctD x))) := vw_of (fun a b ps h => by unfold valsO at h; cases h) PySem.F.slot_dict_values PySem.F.type_dict_values mt_vals ha hbase hline
theorem vw_itms {apos cpos : Pos} (ha : EB k C X a fa) (hbase : attributeBase a "items" X.env (eval a X.env) = eval a X.env := by rfl) (hline : (apos.endLine == cpos.line) = true := by rfl) :
    PE X (.Call (.Attribute a "items" apos) [] [] cpos) (tVw k C DX.itemsO (fun ρ => bnd (fa ρ) fun x => lft (dctD x))) := vw_of (fun a b ps h => by unfold DX.itemsO at h; cases h) PySem.F.slot_dict_items PySem.F.type_dict_items mt_itms ha hbase hline
end
end MM
/-! S5 -/
namespace MM
open PySem PySem.Spec PyProof.Rows L2
section
variable {X : Cx} {pins : List (Addr × Obj)} {σ : L2.St} {H : Hp} {s : Shared}
/-! ## dict(t), t a tuple of pairs -/
theorem pairs_at (I : Inv X pins σ H s) : ∀ {as : List Addr} {kvs : List (Key × V)}, Paired (fun p (kv : Key × V) => SqT X.K H p [kV kv.1, kv.2]) as kvs →
    ∃ (pv : List (Value × Value)) (rs : List (Key × Value)), KV kvs rs ∧ pv.length = as.length ∧ rs.length = as.length ∧ ∀ (j : Nat) (k v : Value), pv[j]? = some (k, v) → ∃ b kk, as[j]? = some b ∧ PairAt s.heap b k v ∧ rs[j]? = some (kk, v) ∧ keyIs kk k = true
  | _, _, .nil => ⟨[], [], .nil, rfl, rfl, fun j k v e => by simp at e⟩
  | _, _, .cons (a := p) (b := kv) h t => by
    obtain ⟨pv, rs, r, l1, l2, q⟩ := pairs_at I t
    obtain ⟨its, rv, ht, _⟩ := I.tuple h
    obtain ⟨u, y, rfl, ru, ry⟩ := vals2 rv
    refine ⟨(u, y) :: pv, (kv.1, y) :: rs, .cons ⟨rfl, ry⟩ r, by simp [l1], by simp [l2], fun j k v e => ?_⟩
    cases j with
    | zero =>
      simp only [List.getElem?_cons_zero, Option.some.injEq, Prod.mk.injEq] at e
      obtain ⟨rfl, rfl⟩ := e
      exact ⟨p, kv.1, rfl, .inl ht, rfl, kV_is (P := X.prog) (w := X.w) ru⟩
    | succ j =>
      obtain ⟨b, kk, e1, e2, e3, e4⟩ := q j k v (by simpa using e)
      exact ⟨b, kk, by simpa using e1, e2, by simpa using e3, e4⟩
def rDictT (K : PySem.W.Frag) : List V → Hp → VK → Prop := fun xs H Q => ∃ (a : Addr) (o : Obj) (as : List Addr) (kvs : List (Key × V)), xs = [.ref a] ∧ H a = some (.frz o (.tup (as.map V.ref))) ∧ Nd o ∧ Paired (fun p (kv : Key × V) => SqT K H p [kV kv.1, kv.2]) as kvs ∧
  ∀ p, H p = none → Q (.ref p) (upd H p (.dK (mergeK [] kvs)))
theorem call_dictT (hcalm : X.calm = true) : CallR X (.type "dict") (rDictT X.K) := by
  intro pins s σ H xs us Q I r q
  obtain ⟨a, o, as, kvs, rfl, ha, hn, hp, q⟩ := q
  obtain rfl := Vals.ref1 r
  obtain ⟨ho, hz, its, rv, o', ho', hc, n, hd⟩ := (show ObjOk X.prog X.w H s.heap a (.frz o (.tup (as.map V.ref))) from I.hok a _ ha)
  rw [ho] at ho'
  cases ho'
  have ei := refs_at rv
  subst ei
  rw [List.length_map] at hz
  obtain ⟨pv, rs, rel, l1, l2, hpv⟩ := pairs_at I hp
  refine PySem.call_dict_pairs (knd := mixKind X.prog X.w) (kvs := rs) (PySem.PairArg.tuple a (as.map Value.ref).toArray (fun j => as.getD j 0) pv) (I.ok.hd hcalm) ⟨⟨o, n, ho, hc, hn, hd⟩, by simp [l1], fun j k v e => ?_⟩ ⟨by rw [l2, l1], fun i key v e => ?_⟩ (by rw [l1]; exact hz) fun h' tk hd' k => ?_
  · obtain ⟨b, kk, e1, e2, _, _⟩ := hpv j k v e
    have eg : as.getD j 0 = b := by simp [List.getD, e1]
    exact ⟨by simp [e1], by show PairAt s.heap (as.getD j 0) k v; rw [eg]; exact e2⟩
  · obtain ⟨b, kk, _, _, e3, e4⟩ := hpv i key v e
    exact ⟨kk, e3, e4⟩
  · have hm : (s.heap.objs.size == sysModules) = false := beq_eq_false_iff_ne.mpr (Nat.ne_of_gt I.big)
    have hlen : (mergeK [] kvs).length ≤ sizeLine := by
      have h1 := length_mergeK kvs []
      rw [List.length_nil, Nat.zero_add] at h1
      have h2 : kvs.length = rs.length := rel.length
      omega
    exact ⟨.ref s.heap.objs.size, upd H s.heap.objs.size (.dK (mergeK [] kvs)), I.laid (t' := tk) (fun b u e => k b u (fun z => nomatch z) e) (Nat.le_refl _) (show ObjOk X.prog X.w _ _ _ (.dK (mergeK [] kvs)) from ⟨hlen, hm, merged [] rs, KV.merge rel .nil, hd'⟩), rfl, q _ (I.hok.fresh (Nat.le_refl _))⟩
end
section
variable {T : Type} {k : Kx} {C : Cell T}
def tpD : D → Option (List (Str × D))
  | .tup ds => (pairsD ds).map (mergeD [])
  | _ => none
theorem c_dictT {K : PySem.W.Frag} : CallK k C (rDictT K) tpD := by
  intro E0 En H0 H σ ρ t x ds v Q R r e q
  unfold tpD at e
  split at e
  · next ds =>
    cases h : pairsD ds with
    | none => rw [h] at e; cases e
    | some ps =>
      rw [h] at e
      cases e
      have r1 : Rp k H0 (.tup ds) v := r
      clear r
      cases r1 with
      | tup h1 hn r2 =>
        obtain ⟨as, kvs, rfl, h2, h3⟩ := pairs_rel (K := K) R.sub r2 h
        exact ⟨_, _, as, kvs, rfl, R.sub _ _ h1, hn, h2, fun p hp => q p _ hp (RpK.merge .nil h3)⟩
  · cases e
end
end MM
/-! T1 -/
namespace MM
open PySem PySem.Spec PyProof.Rows L2
/-! ## set(t), t a tuple of texts -/
def dedupS : List Str → List Str
  | [] => []
  | x :: xs => if xs.any (· == x) then dedupS xs else x :: dedupS xs
theorem dedup_snoc : ∀ (xs : List Str) (x : Str), (dedupS (xs ++ [x])).length = if xs.any (· == x) then (dedupS xs).length else (dedupS xs).length + 1
  | [], x => by simp [dedupS]
  | y :: ys, x => by
    have ih := dedup_snoc ys x
    by_cases e : y = x
    · subst e
      have h1 : (ys ++ [y]).any (· == y) = true := by simp
      have h2 : (y :: ys).any (· == y) = true := by simp
      rw [if_pos h2]
      show (dedupS (y :: (ys ++ [y]))).length = (dedupS (y :: ys)).length
      unfold dedupS
      rw [if_pos h1, ih]
      by_cases q : ys.any (· == y) = true
      · rw [if_pos q, if_pos q]
      · rw [if_neg q, if_neg q]
        rfl
    · have h1 : (ys ++ [x]).any (· == y) = ys.any (· == y) := by
        rw [List.any_append]
        have : (x == y) = false := by simpa using fun z : x = y => e z.symm
        simp [this]
      have h2 : (y :: ys).any (· == x) = ys.any (· == x) := by
        rw [List.any_cons]
        have : (y == x) = false := by simpa using e
        simp [this]
      rw [h2]
      show (dedupS (y :: (ys ++ [x]))).length = _
      unfold dedupS
      rw [h1]
      by_cases q : ys.any (· == y) = true
      · rw [if_pos q, if_pos q]
        exact ih
      · rw [if_neg q, if_neg q]
        simp only [List.length_cons, ih]
        split <;> rfl
def SetS (P : Program) (w : World) (h : Heap) (a : Addr) (xs : List Str) : Prop := h.SetOf (PySem.strKind P w) a (fun k => xs.any (· == k)) (dedupS xs).length
section
variable {P : Program} {w : World} {A : Around} {R : Result → Shared → Prop}
theorem set_loop (hh : A.handled = none) (S J l : Addr) (hJ : J ≠ l) (hS : S ≠ J) (hl : S ≠ l) (items : Array Value) (xs : List Str) (hi : StrsAre items.toList xs) (hz : xs.length + 1 < scanBound) :
    ∀ (m i : Nat) (s : Shared), i + m = xs.length → s.heap.IsTupleIter J l i → s.heap.IsTuple l items → SetS P w s.heap S (xs.take i) →
      (∀ h' tk, SetS P w h' S xs → (∀ b o, b ≠ S → b ≠ J → s.heap.get? b = some o → h'.get? b = some o) → R (.ok (.ret .none)) { s with heap := h', toks := tk }) →
      codeAny (model P w) A (.builtin "set.update.loop" ⟨[.ref S, .ref J], []⟩) R s := by
  have hn : items.size = xs.length := by rw [← StrsAre.len_eq hi, Array.length_toList]
  intro m
  induction m with
  | zero =>
    intro i s him hit ht hs q
    have ei : i = xs.length := by omega
    refine codeAny_builtin PyProof.Rows.F.entry_set_update_loop ?_
    rw [Around.under_plainId PyProof.Rows.F.plain_set_update_loop _]
    show wpAny _ A.in1 (pyNext (.ref J) >>= _) _ _ s
    refine wpAny_bind (wpAny_pyNext_tuple_end hh hit ht (Array.getElem?_eq_none (by omega)) fun h' eb => ?_)
    have hs' : SetS P w h' S xs := by
      obtain ⟨o, es, ep, tb, ho, r⟩ := hs
      rw [ei, List.take_length] at r
      exact ⟨o, es, ep, tb, eb S o hS ho, r⟩
    exact wpAny_pure (q h' s.toks hs' fun b o _ h2 e => eb b o h2 e)
  | succ m ih =>
    intro i s him hit ht hs q
    have hlt : i < items.size := by omega
    have hx : xs[i]? = some (xs[i]'(by omega)) := List.getElem?_eq_getElem (by omega)
    obtain ⟨t, et⟩ := SS.strs_at hi i items[i] (by rw [Array.getElem?_toList]; exact Array.getElem?_eq_getElem hlt)
    have ex : xs.getD i Str.empty = xs[i]'(by omega) := by simp [List.getD, hx]
    rw [ex] at et
    generalize xs[i]'(by omega) = x at hx et
    refine codeAny_builtin PyProof.Rows.F.entry_set_update_loop ?_
    rw [Around.under_plainId PyProof.Rows.F.plain_set_update_loop _]
    show wpAny _ A.in1 (pyNext (.ref J) >>= _) _ _ s
    refine wpAny_bind (wpAny_pyNext_tuple_item hit ht (x := .str x t) (by rw [Array.getElem?_eq_getElem hlt, et]) fun h1 it1 sb => ?_)
    have hs1 : SetS P w h1 S (xs.take i) := by
      obtain ⟨o, es, ep, tb, ho, r⟩ := hs
      exact ⟨o, es, ep, tb, (sb.2 S hS).trans ho, r⟩
    have ht1 : h1.IsTuple l items := ht.at fun o e => (sb.2 l (Ne.symm hJ)).trans e
    show wpAny _ A.in1 (holding [Value.str x t] (setAdd S (.str x t)) >>= _) _ _ _
    refine wpAny_bind (wpAny_holding ?_)
    unfold setAdd
    refine wpAny_holding (wpAny_bind ((PySem.strKind P w).pyHash (k := x) (strKind_is _ _ _ _) ?_))
    have few : (dedupS (xs.take i)).length ≤ xs.length := by
      have le : ∀ ys : List Str, (dedupS ys).length ≤ ys.length := fun ys => by
        induction ys with
        | nil => exact Nat.le_refl _
        | cons y ys ih =>
          unfold dedupS
          split
          · exact Nat.le_succ_of_le ih
          · exact Nat.succ_le_succ ih
      have h2 := le (xs.take i)
      rw [List.length_take] at h2
      omega
    refine wpAny_setAddHashed_of (knd := PySem.strKind P w) (s := { s with heap := h1, toks := s.toks + 1 }) (strKind_is _ _ _ _) rfl hs1 (by omega) fun h2 sb2 new => ?_
    have et2 : xs.take (i + 1) = xs.take i ++ [x] := by rw [List.take_add_one, hx]; rfl
    have hs2 : SetS P w h2 S (xs.take (i + 1)) := by
      unfold SetS
      rw [et2]
      refine SetOf_congr new (fun k => ?_) ?_
      · rw [List.any_append]
        congr 1
        by_cases e : k = x
        · subst e; simp
        · have h3 : (x == k) = false := by simpa using fun z : x = k => e z.symm
          simp [h3, e]
      · rw [dedup_snoc]
    refine wpAny_pure ⟨plainId_quiet PyProof.Rows.F.plain_set_update_loop _, ih (i + 1) _ (by omega) (it1.at fun o e => (sb2.2 J (Ne.symm hS)).trans e) (ht1.at fun o e => (sb2.2 l (Ne.symm hl)).trans e) hs2 fun h' tk hs' k => ?_⟩
    exact q h' tk hs' fun b o h3 h4 e => k b o h3 h4 ((sb2.2 b h3).trans ((sb.2 b h4).trans e))
variable {E : Value → Shared → Prop} {s : Shared}
theorem call_setT {l : Addr} {items : Array Value} {xs : List Str} {Q : Value → Shared → Prop} (hh : A.handled = none) (hl : s.heap.IsTuple l items) (hi : StrsAre items.toList xs) (hz : xs.length + 1 < scanBound)
    (q : ∀ h' tk, SetS P w h' s.heap.objs.size xs → (∀ b o, s.heap.get? b = some o → h'.get? b = some o) → Q (.ref s.heap.objs.size) { s with heap := h', toks := tk }) :
    wpAny (model P w) A (call (.type "set") [.ref l]) Q E s := by
  obtain ⟨c, tl, hmro⟩ := PySem.F.called_set.mro
  have f1 := PySem.F.called_set.made
  have f2 := PySem.F.called_set.sub
  have f3 := PySem.F.called_set.notType
  have f4 := PySem.F.called_set.canCreate
  have f5 := PySem.F.typeCall_set_1 (.ref l)
  refine wpAny_call (codeAny_of_tree ?_)
  show wpAny _ _ (callAny (.type "set") _) _ _ _
  refine wpAny_pure ⟨Code.quiet_builtin _ (by decide +kernel), codeAny_builtin PySem.F.entry_type_call ?_⟩
  rw [Around.under_plain (weight_type_call_type "set" [.ref l] []) rfl]
  repeat (any_goals (first | assumption | wp_step))
  refine codeAny_mono (code_set_new_1 (.ref l) (E := E) (Q₁ := fun obj s₁ => ∃ led : Bool, obj = .ref s.heap.objs.size ∧ s₁ = { s with heap := s.heap.push { cls := .type "set", dict := none, data := .set #[] 0 (.fresh 0 0 led) } }) fun led => ⟨led, rfl, rfl⟩) fun r s₁ hr => ?_
  rcases r with e | fl
  · exact hr
  cases fl <;> first | exact hr.elim | skip
  obtain ⟨led, rfl, rfl⟩ := hr
  generalize hnw : s.heap.push { cls := .type "set", dict := none, data := .set #[] 0 (.fresh 0 0 led) } = hp
  have hlt := let ⟨_, e, _⟩ := hl; Heap.lt_size e
  have old : ∀ b o, s.heap.get? b = some o → hp.get? b = some o := fun b o e => by rw [← hnw]; exact Heap.get?_push_of_some _ e
  have at0 : hp.get? s.heap.objs.size = some { cls := .type "set", dict := none, data := .set #[] 0 (.fresh 0 0 led) } := by rw [← hnw]; exact Heap.get?_push_size _ rfl
  have sz : hp.objs.size = s.heap.objs.size + 1 := by rw [← hnw]; exact Heap.size_push _ _
  have hT : Shared.TypeIs { s with heap := hp } (.ref s.heap.objs.size) "set" := ⟨_, at0, rfl⟩
  have g1 := PySem.F.called_set.init.lookup
  have g2 := PySem.F.called_set.init.bind (.ref s.heap.objs.size)
  repeat (any_goals (first | assumption | wp_step))
  refine codeAny_mono (codeAny_call_builtin (R := wants (fun r s₂ => r = .none ∧ ∃ h' tk, s₂ = { s with heap := h', toks := tk } ∧ SetS P w h' s.heap.objs.size xs ∧ ∀ b o, s.heap.get? b = some o → h'.get? b = some o) E) PySem.F.called_set.init.plain PySem.F.entry_set_init (check_set_init_1 hT ?_)) fun r₂ s₂ hr₂ => ?_
  · obtain ⟨⟨oc, od, odt, osl⟩, ho, hc, n, hd⟩ := id hl
    simp only at hc hd
    subst hc hd
    have ho' := old _ _ ho
    have k1 := PySem.F.sub_tuple_set
    have k2 := PySem.F.sub_tuple_frozenset
    have k3 : (Value.type "tuple" == Value.type "dict") = false := by decide
    have hl1 : hp.IsTuple l items := ⟨_, ho', rfl, n, rfl⟩
    unfold Builtin.«set.__init__» noKeywords Builtin.Frozenset.updateFrom
    generalize hPI : pyIter = PI
    wp_walk
    subst hPI
    refine wpAny_pyIter_tuple hl1 (wpAny_bind (wpAny_runValue ?_))
    refine set_loop (by show A.handled = none; exact hh) s.heap.objs.size hp.objs.size l (Nat.ne_of_gt (by rw [sz]; exact Nat.lt_succ_of_lt hlt)) (Nat.ne_of_lt (by rw [sz]; exact Nat.lt_succ_self _)) (Nat.ne_of_gt hlt) items xs hi hz xs.length 0 _ (by omega) ⟨_, Heap.get?_push_size _ rfl, rfl, rfl⟩ (hl1.push _) ?_ fun h' tk hs k => ?_
    · exact SetOf_congr ((PyProof.Rows.setObjOf_fresh (knd := PySem.strKind P w) led).setOf (Heap.get?_push_of_some _ at0) (by unfold scanBound; omega)) (fun _ => rfl) rfl
    · exact wpAny_pure (wpAny_pure ⟨rfl, h', tk, rfl, hs, fun b o e => k b o (Nat.ne_of_lt (Heap.lt_size e)) (Nat.ne_of_lt (by rw [sz]; exact Nat.lt_succ_of_lt (Heap.lt_size e))) (Heap.get?_push_of_some _ (old b o e))⟩)
  · rcases r₂ with e | fl
    · exact hr₂
    cases fl <;> first | exact hr₂.elim | skip
    obtain ⟨rfl, h', tk, rfl, hs, k⟩ := hr₂
    repeat (any_goals (first | assumption | wp_step))
    exact q h' tk hs k
end
end MM
/-! T2 -/
namespace MM
open PySem PySem.Spec PyProof.Rows L2
def setO (P : Program) (w : World) (a : Addr) (xs : List Str) : HO := .ext fun h => SetS P w h a xs
section
variable {X : Cx}
def rSetT (X : Cx) : List V → Hp → VK → Prop := fun vs H Q => ∃ (l : Addr) (xs : List Str), vs = [.ref l] ∧ SqT X.K H l (xs.map V.str) ∧ xs.length ≤ 1000 ∧ ∀ p, H p = none → Q (.ref p) (upd H p (setO X.prog X.w p xs))
theorem setO_ok {P : Program} {w : World} {H : Hp} {h : Heap} {a : Addr} {xs : List Str} (R : SetS P w h a xs) : ObjOk P w H h a (setO P w a xs) :=
  ⟨R, R.elim fun o q => ⟨o, q.elim fun _ q => q.elim fun _ q => q.elim fun _ q => q.1⟩, fun _ _ p k => by
    obtain ⟨o, es, ep, t, ho, r⟩ := p
    exact ⟨o, es, ep, t, k o ho, r⟩⟩
theorem cr_setT (hc : X.calm = true) : CallR X (.type "set") (rSetT X) := by
  intro pins s σ H vs us Q I r h
  obtain ⟨l, xs, rfl, hq, hz, q⟩ := h
  obtain rfl := Vals.ref1 r
  obtain ⟨its, rv, pl, _⟩ := I.tuple hq
  refine call_setT (I.ok.hd hc) (show s.heap.IsTuple l its.toArray from pl) (xs := xs) (by rw [List.toList_toArray]; exact rv.strs) (by unfold scanBound; omega) fun h' tk hs k => ?_
  exact ⟨.ref s.heap.objs.size, _, I.laid (t' := tk) (o := setO X.prog X.w s.heap.objs.size xs) k (Nat.le_refl _) (setO_ok hs), rfl, q _ (I.hok.fresh (Nat.le_refl _))⟩
theorem cr_lenS : CallR X (.builtin "len") (fun vs H Q => ∃ (l : Addr) (xs : List Str), vs = [.ref l] ∧ H l = some (setO X.prog X.w l xs) ∧ Q (.int (dedupS xs).length) H) := by
  intro pins s σ H vs us Q I r h
  obtain ⟨l, xs, rfl, hl, q⟩ := h
  obtain rfl := Vals.ref1 r
  obtain ⟨o, es, ep, t, ho, ex, hd, _, _, hb, hf, hn⟩ := (show ObjOk X.prog X.w H s.heap l (setO X.prog X.w l xs) from I.hok l _ hl).1
  refine call_len_set ho ex hd hf (by unfold scanBound at hb; omega) ⟨.int (dedupS xs).length, H, I.tok _, ⟨_, by rw [hn]⟩, q⟩
end
section
variable {T : Type} {k : Kx} {C : Cell T} {E0 En H0 H H0' H' : Hp} {σ : L2.St} {ρ : Env} {t t' : T} {d : D} {v : V} {ds : List D} {vs : List V} {ks : List (Str × D)} {kvs : List (Key × V)} {l : Addr}
variable {X : Cx} {a b c e : Expr} {es : List Expr} {pos p1 p2 p3 : Pos} {fa fb fc : Env → M T D}
def lenSet : D → Option D
  | .tup ds => match txts ds with
    | some xs => if xs.length ≤ 1000 then some (.int ((dedupS xs).length : Nat)) else none
    | none => none
  | _ => none
/-- len(set(t)) -/
theorem ed_lenset (hc : X.calm = true) (hm : X.mg "len" = none) (hm2 : X.mg "set" = none) (ha : EB k C X a fa) (hg : Gl X "len" := by rfl) (hg2 : Gl X "set" := by rfl)
    (he : starEach [a] X.env = (false, eval a X.env) :: starEach [] X.env := by rfl) (he2 : starEach [.Call (.Name "set" p1) [a] [] p2] X.env = (false, eval (.Call (.Name "set" p1) [a] [] p2) X.env) :: starEach [] X.env := by rfl) :
    ED k C X (.Call (.Name "len" p3) [.Call (.Name "set" p1) [a] [] p2] [] pos) (fun ρ => bnd (fa ρ) fun x => lft (lenSet x)) :=
  pe_imp (pe_callB cr_lenS hg hm (by rfl) (pa_cons (pe_callTy (cr_setT hc) hg2 hm2 (by rfl) (ea_one ha he) (by decide) (by decide) he (by first | rfl | simp [starEach, backTo])) pa_nil he2) (by decide) (by decide) he2 (by first | rfl | simp [starEach, backTo])) fun σ H Q ⟨E0, En, H0, ρ, t, d, t', R, ev, q⟩ => by
  obtain ⟨x, t1, e1, ev1⟩ := bnd_some ev
  obtain ⟨e2, rfl⟩ := lft_some ev1
  unfold lenSet at e2
  split at e2
  · next ds =>
    split at e2
    · next xs hx =>
      split at e2
      · next hz =>
        cases e2
        refine ⟨E0, En, H0, ρ, t, _, t', R, e1, fun H1 H1' v R1 g1 r1 => ?_⟩
        have r1' : Rp k H1 (.tup ds) v := r1
        clear r1
        cases r1' with
        | tup h1 hn r =>
          next a' ob vs =>
          have ev := strs_vals r hx
          subst ev
          refine ⟨a', xs, rfl, .inl (.inr ⟨_, R1.sub _ _ h1⟩), hz, fun p hp => ?_⟩
          obtain ⟨R2, g2⟩ := R1.newO (setO X.prog X.w p xs) hp (by intro _ h; unfold setO at h; cases h)
          exact ⟨p, xs, rfl, upd_same, q _ _ _ R2 (g1.trans g2) (.int _)⟩
      · cases e2
    · cases e2
  · cases e2
end
end MM
/-! T3 -/
namespace MM
open PySem PySem.Spec PyProof.Rows L2
/-! ## enumerate(t), t a tuple -/
section
variable {prog : Program} {w : World} {A : Around} {E : Value → Shared → Prop} {s : Shared}
theorem meets_enumT (l : Addr) (items : Array Value) :
    Meets (Builtin.«enumerate.__new__» ⟨[.type "enumerate", .ref l], []⟩) (fun _ R s => s.heap.IsTuple l items ∧
      R (.ok (.ret (.ref (s.heap.push { cls := .type "tuple_iterator", data := .fields #[.ref l, .int 0 0] }).objs.size)))
        { s with heap := (s.heap.push { cls := .type "tuple_iterator", data := .fields #[.ref l, .int 0 0] }).push { cls := .type "enumerate", data := .fields #[.none, .bool false, .ref s.heap.objs.size, rawInt 0, .none, .none] } }) :=
  .of_wp fun prog w A R s h => by
    obtain ⟨hp, g, d, tk, os⟩ := s
    obtain ⟨hl, h⟩ := h
    have f := sub_enumerate
    wp_walk
    refine wpAny_stack_any fun st => wpAny_pure ?_
    split
    · next c _ _ _ _ _ =>
      cases (c == Value.type "enumerate") <;> (wp_walk using wpAny_pyIter_tuple hl; exact ⟨_, rfl, h⟩)
    · wp_walk using wpAny_pyIter_tuple hl
      exact ⟨_, rfl, h⟩
theorem call_enumT {l : Addr} {items : Array Value} {Q : Value → Shared → Prop} (hL : s.heap.IsTuple l items)
    (h : ∀ h', IsEnum h' (s.heap.objs.size + 1) s.heap.objs.size 0 .none → h'.IsTupleIter s.heap.objs.size l 0 → (∀ b o, s.heap.get? b = some o → h'.get? b = some o) → Q (.ref (s.heap.objs.size + 1)) { s with heap := h' }) :
    wpAny (model prog w) A (call (.type "enumerate") [.ref l]) Q E s := by
  refine callType_new F.called_enumerate (by decide) (F.typeCall_enumerate_1 _) (F.newCall_enumerate_1 _) (fun obj => F.args_object_init_2 obj _) F.entry_enumerate_new (meets_enumT l items) ⟨hL, ?_⟩
  have sz := Heap.size_push s.heap { cls := .type "tuple_iterator", data := .fields #[.ref l, .int 0 0] }
  have e0 : ((s.heap.push { cls := .type "tuple_iterator", data := .fields #[.ref l, .int 0 0] }).push { cls := .type "enumerate", data := .fields #[.none, .bool false, .ref s.heap.objs.size, rawInt 0, .none, .none] }).get? (s.heap.push { cls := .type "tuple_iterator", data := .fields #[.ref l, .int 0 0] }).objs.size = some { cls := .type "enumerate", data := .fields #[.none, .bool false, .ref s.heap.objs.size, rawInt 0, .none, .none] } := Heap.get?_push_size _ rfl
  show _ ∧ _
  rw [sz] at e0 ⊢
  exact ⟨⟨_, e0, rfl⟩, h _ e0 ⟨_, Heap.get?_push_of_some _ (Heap.get?_push_size _ rfl), rfl, rfl⟩ fun b o x => Heap.get?_push_of_some _ (Heap.get?_push_of_some _ x)⟩
end
/-- the tuple at a, each item in a new pair -/
def ItE (K : PySem.W.Frag) (a : Addr) : It :=
  ⟨fun i H => ∃ (xs : List V) (x : V), SqT K H a xs ∧ xs[i]? = some x, fun i H v H' => ∃ T x, v = .ref T ∧ H T = none ∧ H' = upd H T (.tup [.int (i : Nat), x]) ∧ ∀ xs, SqT K H a xs → xs[i]? = some x, fun i H => ∃ xs : List V, SqT K H a xs ∧ xs.length ≤ i⟩
theorem turn_enumT {P : Program} {w : World} {K : PySem.W.Frag} {elts : List Expr} {kk : Nat} {tpos : Pos} (a e it : Addr) :
    Turn P w K (.Tuple elts kk tpos) (ItE K a) [e, it] e (fun i h => (∃ old, IsEnum h e it ((i : Nat) : Int) old) ∧ h.IsTupleIter it a i ∧ e ≠ it ∧ a ≠ e ∧ a ≠ it) where
  mem := List.mem_cons_self
  obj := fun i h st b hb => by
    obtain ⟨⟨old, he⟩, ⟨o, ho, hc, hd⟩, _⟩ := st
    rcases List.mem_cons.mp hb with rfl | hb
    · exact ⟨_, he, fun v q => nomatch q⟩
    · rw [List.mem_singleton.mp hb]
      exact ⟨o, ho, fun v q => by rw [hd] at q; cases q⟩
  keep := fun i h h' st k => ⟨st.1.elim fun old he => ⟨old, k e List.mem_cons_self _ he⟩, st.2.1.at fun o q => k it (List.mem_cons_of_mem _ List.mem_cons_self) o q, st.2.2⟩
  item := by
    intro X hP hw hK hc i pins s σ H E I hf st hg
    subst hP hw hK
    obtain ⟨⟨old, he⟩, hit, hne, ha1, ha2⟩ := st
    obtain ⟨xs, x, hq, hx⟩ := hg
    obtain ⟨its, rv, p, hz⟩ := I.tuple hq
    obtain ⟨u, hu, ru⟩ := rv.get hx
    have hlt : i < its.toArray.size := by
      have := (List.getElem?_eq_some_iff.mp hu).1
      simpa using this
    have hel := Heap.lt_size he
    have hil : it < s.heap.objs.size := hit.elim fun _ q => Heap.lt_size q.1
    have nin : e ∉ [it, a] := fun z => by
      rcases List.mem_cons.mp z with z | z
      · exact hne z
      · exact ha1 (List.mem_singleton.mp z).symm
    refine PySem.wpAny_pyNext_enum_itemC (Draws.tuple (by show X.A.handled = none; exact I.ok.hd hc) it a ha2 its.toArray) he ⟨hit, p⟩ hlt hne nin fun u' h' tk hu' ho hit' hT hsz hk => ?_
    have eu : u' = u := by
      have h1 : its.toArray[i]? = some u' := hu'
      rw [List.getElem?_toArray, hu] at h1
      exact (Option.some.inj h1).symm
    subst eu
    refine ⟨_, rfl, wpAny_letOwnedTupleGo_enum (s := { s with heap := h', toks := tk + 1 }) ho fun h'' he' sb => ?_⟩
    have hT2 := (sb.2 _ (Nat.ne_of_gt hel)).trans hT
    have out : ∀ b ob, b ∉ [e, it] → s.heap.get? b = some ob → h''.get? b = some ob := fun b ob hb q => (sb.2 b fun z => hb (by simp [z])).trans (hk b ob (fun z => hb (by simp [z])) (fun z => hb (by simp [z])) q)
    have I1 : Inv X pins σ (upd H s.heap.objs.size (.tup [.int (i : Nat), x])) { s with heap := h'', toks := tk + 1 } :=
      I.turnedNew (ch := [e, it]) out hf (Nat.le_refl _) ⟨by show 2 ≤ sizeLine; decide, [.int i tk, u'], .cons ⟨_, rfl⟩ (.cons ru .nil), ⟨_, hT2, rfl, _, rfl⟩⟩
    refine ⟨.ref s.heap.objs.size, _, I1, rfl, ⟨_, x, rfl, I.hok.fresh (Nat.le_refl _), rfl, fun ys hy => by rw [I.tuple_inj hy hq]; exact hx⟩, ⟨⟨u', ?_⟩, hit'.1.at fun o q => (sb.2 it (Ne.symm hne)).trans q, hne, ha1, ha2⟩, fun b hb => ?_⟩
    · have e1 : ((i + 1 : Nat) : Int) = (i : Int) + 1 := by omega
      rw [e1]
      exact he'
    · have lt : b < s.heap.objs.size := by
        rcases List.mem_cons.mp hb with rfl | hb
        · exact hel
        · rw [List.mem_singleton.mp hb]; exact hil
      rw [upd_ne (Nat.ne_of_lt lt)]
      exact (hf b hb).1
  done := by
    intro X hP hw hK hc i pins s σ H E I hf st hg
    subst hP hw hK
    obtain ⟨⟨old, he⟩, hit, hne, ha1, ha2⟩ := st
    obtain ⟨xs, hq, hx⟩ := hg
    obtain ⟨its, rv, p, hz⟩ := I.tuple hq
    obtain ⟨f0, f1, f2, f3, f4, f5⟩ := hf it (List.mem_cons_of_mem _ List.mem_cons_self)
    have hl := rv.length
    refine PySem.wpAny_pyNext_enum_endD (n := i) (St := fun j h => h.IsTupleIter it a j ∧ h.IsTuple a its.toArray ∧ j = i) (P := fun j v => its.toArray[j]? = some v) (fp := [it, a]) ⟨fun j h st => st.1.elim fun o q => ⟨o, q.1⟩, fun j h h2 st k => ⟨st.1.at fun o q => k it List.mem_cons_self o q, st.2.1.at fun o q => k a (List.mem_cons_of_mem _ List.mem_cons_self) o q, st.2.2⟩, fun j s Q E hj st hQ => ?_, fun s Q E st hE => wpAny_nextOf_tuple_end (by show X.A.handled = none; exact I.ok.hd hc) st.1 st.2.1 (Array.getElem?_eq_none (by rw [List.size_toArray]; omega)) hE⟩ he ⟨hit, p, rfl⟩ fun h' eb => ⟨rfl, I.turned (t' := s.toks) (fun b o hb q => eb b o hb q) f0 f1 f3 f4 f5⟩
    exact absurd st.2.2 (Nat.ne_of_lt hj)
  self := fun A i s Q E st h => st.1.elim fun _ he => wpAny_pyIter_enum he h
end MM
/-! T4 -/
namespace MM
open PySem PySem.Spec PyProof.Rows L2
section
variable {T : Type} {k : Kx} {C : Cell T} {E0 En H0 H H0' H' : Hp} {σ : L2.St} {ρ : Env} {t t' : T} {d : D} {v : V} {ds : List D} {vs : List V} {ks : List (Str × D)} {kvs : List (Key × V)} {l : Addr}
variable {X : Cx} {a b c e : Expr} {es : List Expr} {pos p p1 p2 p3 tpos : Pos} {fa fb fc : Env → M T D} {fl : Env → M T (List D)}
/-! ## zip(a, b) -/
def zipL : List D → List D → List D
  | x :: xs, y :: ys => .pr x y :: zipL xs ys
  | _, _ => []
def zipD : List D → Option (List D)
  | [.tup xs, .tup ys] => some (zipL xs ys)
  | [.lst xs, .lst ys] => some (zipL xs ys)
  | _ => none
theorem zipL_get : ∀ {xs ys : List D} {i : Nat} {d : D}, (zipL xs ys)[i]? = some d → ∃ x y, xs[i]? = some x ∧ ys[i]? = some y ∧ d = .pr x y
  | [], _, _, _, h => by simp [zipL] at h
  | _ :: _, [], _, _, h => by simp [zipL] at h
  | x :: xs, y :: ys, 0, d, h => by
    simp only [zipL, List.getElem?_cons_zero, Option.some.injEq] at h
    exact ⟨x, y, rfl, rfl, h.symm⟩
  | x :: xs, y :: ys, i + 1, d, h => by
    obtain ⟨u, w, h1, h2, h3⟩ := zipL_get (xs := xs) (ys := ys) (i := i) (d := d) (by simpa [zipL] using h)
    exact ⟨u, w, by simpa using h1, by simpa using h2, h3⟩
theorem zipL_end : ∀ {xs ys : List D} {i : Nat}, (zipL xs ys).length ≤ i → xs.length ≤ i ∨ ys.length ≤ i
  | [], _, _, _ => .inl (Nat.zero_le _)
  | _ :: _, [], _, _ => .inr (Nat.zero_le _)
  | x :: xs, y :: ys, 0, h => by simp [zipL] at h
  | x :: xs, y :: ys, i + 1, h => by
    rcases zipL_end (xs := xs) (ys := ys) (i := i) (by simpa [zipL] using h) with q | q
    · exact .inl (by simpa using q)
    · exact .inr (by simpa using q)
theorem wi_zip {a b : Expr} {elts : List Expr} {kk : Nat} (hm : X.mg "zip" = none) (ha : EA k C X [a, b] fl) (hg : Gl X "zip" := by rfl)
    (hs : starEach [a, b] X.env = (false, eval a X.env) :: starEach [b] X.env := by rfl) (hpl : (backTo pos (starEach [b] X.env)).any (·.1) = false := by first | rfl | simp [starEach, backTo]) :
    WI k C X (.Tuple elts kk tpos) (.Call (.Name "zip" p) [a, b] [] pos) (fun ρ => bnd (fl ρ) fun xs => lft (zipD xs)) :=
  pi_imp (RZ.pi_zipA hg hm ha hs hpl) fun σ H Rr ⟨E0, En, H0, ρ, t, ds, t', R, ev, q⟩ => by
  obtain ⟨xs, t1, e1, ev1⟩ := bnd_some ev
  obtain ⟨e2, rfl⟩ := lft_some ev1
  refine ⟨E0, En, H0, ρ, t, xs, t', R, e1, fun H1 H1' vs R1 g1 r1 => ?_⟩
  unfold zipD at e2
  split at e2
  · next xs ys =>
    cases e2
    cases r1 with
    | cons rx r1 =>
      cases r1 with
      | cons ry r1 =>
        cases r1
        cases rx with
        | tup h1 n1 r1 =>
          cases ry with
          | tup h2 n2 r2 =>
            next a1 o1 us a2 o2 ws =>
            refine ⟨a1, a2, us, ws, rfl, .inr ⟨.inl (.inr ⟨_, R1.sub _ _ h1⟩), .inl (.inr ⟨_, R1.sub _ _ h2⟩), q _ _ _ R1 g1 fun i H2 H3 x1 x2 => ?_⟩⟩
            have s1 : SqT X.K H3 a1 us := .inl (.inr ⟨_, (x1.trans x2) _ _ h1⟩)
            have s2 : SqT X.K H3 a2 ws := .inl (.inr ⟨_, (x1.trans x2) _ _ h2⟩)
            refine ⟨fun hi => ⟨us, ws, s1, s2, by rw [← r1.length, ← r2.length]; exact zipL_end hi⟩, fun d hd => ?_⟩
            obtain ⟨x, y, g1, g2, rfl⟩ := zipL_get hd
            obtain ⟨u, u1, u2⟩ := r1.get g1
            obtain ⟨w, w1, w2⟩ := r2.get g2
            refine ⟨⟨us, ws, u, w, s1, s2, u1, w1⟩, fun z H4 y4 => ?_⟩
            obtain ⟨P, u', w', rfl, hP, rfl, q1, q2⟩ := y4
            have eu := q1 us s1
            have ew := q2 ws s2
            rw [u1] at eu
            rw [w1] at ew
            cases eu
            cases ew
            have f1 : H2 P = none := x2.free hP
            exact .inr ⟨P, _, hP, rfl, rfl, .pr upd_same (u2.ex (x1.trans (ex_new f1))) (w2.ex (x1.trans (ex_new f1)))⟩
  · next xs ys =>
    cases e2
    cases r1 with
    | cons rx r1 =>
      cases r1 with
      | cons ry r1 =>
        cases r1
        cases rx with
        | lst h1 r1 =>
          cases ry with
          | lst h2 r2 =>
            next a1 us a2 ws =>
            refine ⟨a1, a2, us, ws, rfl, .inl ⟨.inl (.inl (R1.sub _ _ h1)), .inl (.inl (R1.sub _ _ h2)), q _ _ _ R1 g1 fun i H2 H3 x1 x2 => ?_⟩⟩
            have s1 : SqL X.K H3 a1 us := .inl (.inl ((x1.trans x2) _ _ h1))
            have s2 : SqL X.K H3 a2 ws := .inl (.inl ((x1.trans x2) _ _ h2))
            refine ⟨fun hi => ⟨us, ws, s1, s2, by rw [← r1.length, ← r2.length]; exact zipL_end hi⟩, fun d hd => ?_⟩
            obtain ⟨x, y, g1, g2, rfl⟩ := zipL_get hd
            obtain ⟨u, u1, u2⟩ := r1.get g1
            obtain ⟨w, w1, w2⟩ := r2.get g2
            refine ⟨⟨us, ws, u, w, s1, s2, u1, w1⟩, fun z H4 y4 => ?_⟩
            obtain ⟨P, u', w', rfl, hP, rfl, q1, q2⟩ := y4
            have eu := q1 us s1
            have ew := q2 ws s2
            rw [u1] at eu
            rw [w1] at ew
            cases eu
            cases ew
            have f1 : H2 P = none := x2.free hP
            exact .inr ⟨P, _, hP, rfl, rfl, .pr upd_same (u2.ex (x1.trans (ex_new f1))) (w2.ex (x1.trans (ex_new f1)))⟩
  · cases e2
/-! ## enumerate(t) -/
def enumL : Nat → List D → List D
  | _, [] => []
  | i, x :: xs => .pr (.int i) x :: enumL (i + 1) xs
theorem enumL_get : ∀ {n : Nat} {xs : List D} {i : Nat} {d : D}, (enumL n xs)[i]? = some d → ∃ x, xs[i]? = some x ∧ d = .pr (.int (n + i : Nat)) x
  | _, [], _, _, h => by simp [enumL] at h
  | n, x :: xs, 0, d, h => by
    simp only [enumL, List.getElem?_cons_zero, Option.some.injEq] at h
    exact ⟨x, rfl, h.symm⟩
  | n, x :: xs, i + 1, d, h => by
    obtain ⟨u, h1, h2⟩ := enumL_get (n := n + 1) (xs := xs) (i := i) (d := d) (by simpa [enumL] using h)
    exact ⟨u, by simpa using h1, by rw [h2]; congr 2; omega⟩
theorem enumL_len : ∀ (n : Nat) (xs : List D), (enumL n xs).length = xs.length
  | _, [] => rfl
  | n, x :: xs => by simp [enumL, enumL_len]
def iEnumT (K : PySem.W.Frag) (ta : TA) : TI := fun σ H R => ta σ H fun vs H1 => ∃ a xs, vs = [.ref a] ∧ SqT K H1 a xs ∧ R (ItE K a) H1
theorem pi_enumT {elts : List Expr} {kk : Nat} {ta : TA} (hg : Gl X "enumerate") (hm : X.mg "enumerate" = none) (ha : PA X [a] ta) (hs : starEach [a] X.env = [(false, eval a X.env)] := by rfl) :
    PI X (.Tuple elts kk tpos) (.Call (.Name "enumerate" p) [a] [] pos) (iEnumT X.K ta) := ⟨fun pins s σ H R I h => by
  refine Call_ (ld_blt I hg hm boot_enumerate (PyProof.Rows.callWith_type1 (thn (ha.run pos pins s σ H _ I h) fun us s1 w => ?_) hs rfl))
  obtain ⟨vs, H1, I1, r1, a', xs, rfl, hq, q⟩ := w
  obtain rfl := Vals.ref1 r1
  obtain ⟨its, rv, pl, hz⟩ := I1.tuple hq
  have lt : a' < s1.heap.objs.size := pl.elim fun _ q => Heap.lt_size q.1
  refine call_enumT pl fun h' he hit hk => wpAny_pyIter_enum he ⟨s1.heap.objs.size + 1, [s1.heap.objs.size + 1, s1.heap.objs.size], _, _, H1, rfl, I1.kept (t' := s1.toks) hk, turn_enumT a' _ s1.heap.objs.size, ⟨⟨.none, he⟩, hit, Nat.succ_ne_self _, Nat.ne_of_lt (Nat.lt_succ_of_lt lt), Nat.ne_of_lt lt⟩, fun b hb => ?_, q⟩
  have hle : s1.heap.objs.size ≤ b := by
    rcases List.mem_cons.mp hb with z | z
    · rw [z]; exact Nat.le_succ _
    · rw [List.mem_singleton.mp z]; exact Nat.le_refl _
  exact I1.fpOk hle (I1.hok.fresh hle)⟩
theorem wi_enum {elts : List Expr} {kk : Nat} (hm : X.mg "enumerate" = none) (ha : ED k C X a fa) (hg : Gl X "enumerate" := by rfl) (hs : starEach [a] X.env = [(false, eval a X.env)] := by rfl) :
    WI k C X (.Tuple elts kk tpos) (.Call (.Name "enumerate" p) [a] [] pos) (fun ρ => bnd (fa ρ) fun x => bnd (lft (tupD x)) fun xs => ret (enumL 0 xs)) :=
  pi_imp (pi_enumT hg hm (pa_cons ha pa_nil (by exact hs)) hs) fun σ H Rr ⟨E0, En, H0, ρ, t, ds, t', R, ev, q⟩ => by
  obtain ⟨x, t1, e1, ev1⟩ := bnd_some ev
  obtain ⟨xs, t2, e2, ev2⟩ := bnd_some ev1
  obtain ⟨rfl, rfl⟩ := ret_some ev2
  obtain ⟨e3, rfl⟩ := lft_some e2
  have hx := tupD_some e3
  subst hx
  refine ⟨E0, En, H0, ρ, t, _, _, R, e1, fun H1 H1' v R1 g1 r1 => ?_⟩
  cases r1 with
  | tup h1 n1 r =>
    next a1 o1 us =>
    refine ⟨a1, us, rfl, .inl (.inr ⟨_, R1.sub _ _ h1⟩), q _ _ _ R1 g1 fun i H2 H3 x1 x2 => ?_⟩
    have s1 : SqT X.K H3 a1 us := .inl (.inr ⟨_, (x1.trans x2) _ _ h1⟩)
    refine ⟨fun hi => ⟨us, s1, by rw [← r.length, ← enumL_len 0 xs]; exact hi⟩, fun d hd => ?_⟩
    obtain ⟨x, g2, rfl⟩ := enumL_get hd
    obtain ⟨u, u1, u2⟩ := r.get g2
    refine ⟨⟨us, u, s1, u1⟩, fun z H4 y4 => ?_⟩
    obtain ⟨P, u', rfl, hP, rfl, q1⟩ := y4
    have eu := q1 us s1
    rw [u1] at eu
    cases eu
    have f1 : H2 P = none := x2.free hP
    rw [Nat.zero_add]
    exact .inr ⟨P, _, hP, rfl, rfl, .pr upd_same (.int _) (u2.ex (x1.trans (ex_new f1)))⟩
/-! ## range -/
def rangeL (lo st : Int) (n : Nat) : List D := (List.range n).map fun (i : Nat) => D.int (lo + (i : Int) * st)
theorem rangeL_get {lo st : Int} {n i : Nat} {d : D} (h : (rangeL lo st n)[i]? = some d) : i < n ∧ d = .int (lo + (i : Int) * st) := by
  unfold rangeL at h
  rw [List.getElem?_map] at h
  by_cases hi : i < n
  · rw [List.getElem?_range hi] at h
    exact ⟨hi, (Option.some.inj h).symm⟩
  · rw [List.getElem?_eq_none (by rw [List.length_range]; omega)] at h
    cases h
theorem wi_range1 {tg : Expr} (hm : X.mg "range" = none) (ha : ED k C X a fa) (hg : Gl X "range" := by rfl) (hs : starEach [a] X.env = [(false, eval a X.env)] := by rfl) :
    WI k C X tg (.Call (.Name "range" p) [a] [] pos) (fun ρ => bnd (fa ρ) fun x => bnd (lft (asI x)) fun n => lft (if 0 ≤ n ∧ n ≤ 100000 then some (rangeL 0 1 n.toNat) else none)) :=
  pi_imp (pi_range1 hg hm (pa_cons ha pa_nil (by exact hs)) hs) fun σ H Rr ⟨E0, En, H0, ρ, t, ds, t', R, ev, q⟩ => by
  obtain ⟨x, t1, e1, ev1⟩ := bnd_some ev
  obtain ⟨n, t2, e2, ev2⟩ := bnd_some ev1
  obtain ⟨e3, rfl⟩ := lft_some e2
  obtain ⟨e4, rfl⟩ := lft_some ev2
  have hx := asI_some e3
  subst hx
  split at e4
  · next hn =>
    cases e4
    refine ⟨E0, En, H0, ρ, t, _, _, R, e1, fun H1 H1' v R1 g1 r1 => ?_⟩
    cases r1
    refine ⟨n, rfl, by omega, by omega, q _ _ _ R1 g1 fun i H2 H3 x1 x2 => ⟨fun hi => ?_, fun d hd => ?_⟩⟩
    · unfold rangeL at hi
      rw [List.length_map, List.length_range] at hi
      exact hi
    · obtain ⟨hi, rfl⟩ := rangeL_get hd
      exact ⟨hi, fun z H4 ⟨y1, y2⟩ => .inl ⟨y1, by rw [y2, Int.mul_one]; exact .int _⟩⟩
  · cases e4
theorem size_two {j : Int} (h1 : 0 ≤ j) : Builtin.Range.rangeSize 0 j 2 = ((j.toNat + 1) / 2 : Nat) := by
  unfold Builtin.Range.rangeSize
  rw [if_pos (by decide)]
  split <;> omega
theorem small_two {j : Int} (h1 : 0 ≤ j) (h2 : j ≤ 1000) : Builtin.Range.small 0 j 2 = true := by
  unfold Builtin.Range.small
  rw [size_two h1]
  simp only [Builtin.Range.rangeFitsLong, Bool.and_eq_true, Bool.or_eq_true, decide_eq_true_eq, beq_iff_eq, show (2 : Int) > 0 by decide, if_true]
  omega
theorem wi_range3 {tg b c : Expr} (hm : X.mg "range" = none) (ha : EA k C X [a, b, c] fl) (hg : Gl X "range" := by rfl) (hs : starEach [a, b, c] X.env = (false, eval a X.env) :: starEach [b, c] X.env := by rfl) (hpl : (backTo pos (starEach [b, c] X.env)).any (·.1) = false := by first | rfl | simp [starEach, backTo]) :
    WI k C X tg (.Call (.Name "range" p) [a, b, c] [] pos) (fun ρ => bnd (fl ρ) fun xs => lft (match xs with
      | [.int i, .int j, .int st] => if i = 0 ∧ 0 ≤ j ∧ j ≤ 1000 ∧ st = 2 then some (rangeL 0 2 ((j.toNat + 1) / 2)) else none
      | _ => none)) :=
  pi_imp (pi_range3 hg hm ha hs hpl) fun σ H Rr ⟨E0, En, H0, ρ, t, ds, t', R, ev, q⟩ => by
  obtain ⟨xs, t1, e1, ev1⟩ := bnd_some ev
  obtain ⟨e4, rfl⟩ := lft_some ev1
  split at e4
  · next i j st =>
    split at e4
    · next hn =>
      obtain ⟨rfl, h1, h2, rfl⟩ := hn
      cases e4
      refine ⟨E0, En, H0, ρ, t, _, t', R, e1, fun H1 H1' v R1 g1 r1 => ?_⟩
      cases r1 with
      | cons ri r1 =>
        cases r1 with
        | cons rj r1 =>
          cases r1 with
          | cons rk r1 =>
            cases r1
            cases ri
            cases rj
            cases rk
            refine ⟨0, j, 2, (j.toNat + 1) / 2, rfl, ⟨by decide, by decide, ?_, ?_⟩, q _ _ _ R1 g1 fun i H2 H3 x1 x2 => ⟨fun hi => ?_, fun d hd => ?_⟩⟩
            · exact small_two h1 h2
            · exact size_two h1
            · unfold rangeL at hi
              rw [List.length_map, List.length_range] at hi
              exact hi
            · obtain ⟨hi, rfl⟩ := rangeL_get hd
              exact ⟨hi, fun z H4 ⟨y1, y2⟩ => .inl ⟨y1, by rw [y2]; exact .int _⟩⟩
    · cases e4
  · cases e4
/-! ## the signs of a text -/
def signsD : D → Option (List D)
  | .str s => if s.length ≤ 1000 then some (s.cps.toList.map fun c => D.str ⟨#[c]⟩) else none
  | _ => none
theorem wi_str {tg : Expr} (ha : ED k C X a fa) : WI k C X tg a (fun ρ => bnd (fa ρ) fun x => lft (signsD x)) :=
  pi_imp (pi_str ha) fun σ H Rr ⟨E0, En, H0, ρ, t, ds, t', R, ev, q⟩ => by
  obtain ⟨x, t1, e1, ev1⟩ := bnd_some ev
  obtain ⟨e4, rfl⟩ := lft_some ev1
  unfold signsD at e4
  split at e4
  · next s =>
    split at e4
    · next hn =>
      cases e4
      refine ⟨E0, En, H0, ρ, t, _, t', R, e1, fun H1 H1' v R1 g1 r1 => ?_⟩
      cases r1
      refine ⟨s, rfl, q _ _ _ R1 g1 fun i H2 H3 x1 x2 => ⟨fun hi => ?_, fun d hd => ?_⟩⟩
      · rw [List.length_map, Array.length_toList] at hi
        exact hi
      · rw [List.getElem?_map] at hd
        cases hc : s.cps.toList[i]? with
        | none => rw [hc] at hd; cases hd
        | some c =>
          rw [hc] at hd
          cases hd
          have hc' : s.cps[i]? = some c := by rw [← Array.getElem?_toList]; exact hc
          refine ⟨(Array.getElem?_eq_some_iff.mp hc').1, fun z H4 ⟨y1, c', y2, y3⟩ => .inl ⟨y1, ?_⟩⟩
          rw [hc'] at y2
          cases y2
          rw [y3]
          exact .str _
    · cases e4
  · cases e4
end
end MM
/-! T5 -/
namespace MM
open PySem PySem.Spec PyProof.Rows L2
section
variable {T : Type} {k : Kx} {C : Cell T} {E0 En H0 H H0' H' : Hp} {σ : L2.St} {ρ : Env} {t t' : T} {d : D} {v : V} {ds : List D} {vs : List V} {ks : List (Str × D)} {kvs : List (Key × V)} {l : Addr}
variable {X : Cx} {a b c e : Expr} {es : List Expr} {pos p p1 p2 p3 tpos : Pos} {fa fb fc : Env → M T D} {fl : Env → M T (List D)}
/-! ## xs.append(ys.pop(n)) -/
def apopE (i j : Nat) (z : D) (ρ : Env) : Option Out := match z, ρ[i]?, ρ[j]? with
  | .int n, some (some (.ol ds)), some (some (.ol es)) => match ixN es.length n with
    | some m => match es[m]? with
      | some d => if ds.length ≤ 1000 ∧ es.length ≤ 1000 then some (.nx ((ρ.set j (some (.ol (es.eraseIdx m)))).set i (some (.ol (ds ++ [d]))))) else none
      | none => none
    | none => none
  | _, _, _ => none
theorem RpA.erase (r : RpA k H ds vs) (m : Nat) : RpA k H (ds.eraseIdx m) (vs.eraseIdx m) := by
  induction m generalizing ds vs with
  | zero =>
    cases r with
    | nil => exact .nil
    | cons h r => exact r
  | succ m ih =>
    cases r with
    | nil => exact .nil
    | cons h r => exact .cons h (ih r)
theorem ss_apop (i j : Nat) (hij : i ≠ j) {x y : Str} {pa pb apos bpos cpos dpos : Pos} (hc : ED k C X c fc) (hN : X.N[i]? = some x := by rfl) (hN2 : X.N[j]? = some y := by rfl)
    (hv : Vis X.env.scope x := by first | exact Or.inl rfl | exact Or.inr (Or.inl rfl) | exact Or.inr (Or.inr rfl)) (hv2 : Vis X.env.scope y := by first | exact Or.inl rfl | exact Or.inr (Or.inl rfl) | exact Or.inr (Or.inr rfl))
    (hd : (x == ("__debug__" : Str)) = false := by decide) (hcd : (x == ("__classdict__" : Str)) = false := by decide) (hd2 : (y == ("__debug__" : Str)) = false := by decide) (hcd2 : (y == ("__classdict__" : Str)) = false := by decide)
    (hb1 : attributeBase (.Name y pb) "pop" X.env (eval (.Name y pb) X.env) = eval (.Name y pb) X.env := by rfl)
    (hf1 : ((backTo dpos (starEach [c] X.env)).all (fun x => !x.1) && (backToKw dpos (keywordEach [] X.env)).all (fun x => x.1.isSome) && decide (([c] : List Expr).length + ([] : List Keyword).length + (if ([] : List Keyword).isEmpty then 0 else 1) < 30)) = true := by rfl)
    (hl1 : (bpos.endLine == dpos.line) = true := by rfl) (hs1 : starEach [c] X.env = (false, eval c X.env) :: starEach [] X.env := by rfl)
    (hb2 : attributeBase (.Name x pa) "append" X.env (eval (.Name x pa) X.env) = eval (.Name x pa) X.env := by rfl)
    (hf2 : ((backTo cpos (starEach [.Call (.Attribute (.Name y pb) "pop" bpos) [c] [] dpos] X.env)).all (fun x => !x.1) && (backToKw cpos (keywordEach [] X.env)).all (fun x => x.1.isSome) && decide (([.Call (.Attribute (.Name y pb) "pop" bpos) [c] [] dpos] : List Expr).length + ([] : List Keyword).length + (if ([] : List Keyword).isEmpty then 0 else 1) < 30)) = true := by rfl)
    (hl2 : (apos.endLine == cpos.line) = true := by rfl)
    (hs2 : starEach [.Call (.Attribute (.Name y pb) "pop" bpos) [c] [] dpos] X.env = (false, eval (.Call (.Attribute (.Name y pb) "pop" bpos) [c] [] dpos) X.env) :: starEach [] X.env := by rfl)
    (hsw : swapsWith (.Call (.Attribute (.Name x pa) "append" apos) [.Call (.Attribute (.Name y pb) "pop" bpos) [c] [] dpos] [] cpos) none pos.line X.env = pure false := by rfl) :
    SS k C X (.Expr (.Call (.Attribute (.Name x pa) "append" apos) [.Call (.Attribute (.Name y pb) "pop" bpos) [c] [] dpos] [] cpos) pos) (fun ρ => bnd (fc ρ) fun z => lft (apopE i j z ρ)) :=
  ps_imp (ps_expr (pe_bm PySem.F.plainAttrs_list PySem.F.slot_list_append PySem.F.type_list_append mt_append (pe_var hN hv hd hcd)
    (pa_cons (pe_bm PySem.F.plainAttrs_list PySem.F.slot_list_pop PySem.F.type_list_pop mt_popAt (pe_var hN2 hv2 hd2 hcd2) (pa_cons hc pa_nil hs1) hb1 hf1 hl1 hs1 (by first | rfl | simp [starEach, backTo])) pa_nil hs2) hb2 hf2 hl2 hs2 (by first | rfl | simp [starEach, backTo])) hsw) fun N σ H ⟨E0, En, H0, ρ, t, o, t', R, ev, q⟩ => by
  obtain ⟨z, t1, e1, ev1⟩ := bnd_some ev
  obtain ⟨e2, rfl⟩ := lft_some ev1
  unfold apopE at e2
  split at e2 <;> try (cases e2; done)
  next z n ds es hi hj =>
  split at e2 <;> try (cases e2; done)
  next m hm =>
  split at e2 <;> try (cases e2; done)
  next d hd' =>
  split at e2 <;> try (cases e2; done)
  next hz =>
  cases e2
  obtain ⟨l1, vs1, a1, a2, a3, _⟩ := R.app hi
  obtain ⟨l2, vs2, b1, b2, b3, _⟩ := R.app hj
  refine ⟨_, a1, .inl ⟨rfl, vs1, .inl (.inl a2)⟩, _, b1, .inl ⟨rfl, vs2, .inl (.inl b2)⟩, E0, En, H0, ρ, t, _, t', R, e1, fun H1 H1' v R1 g1 r1 => ?_⟩
  cases r1
  obtain ⟨l2', vs2', b1', b2', b3', up2⟩ := R1.app hj
  rw [b1] at b1'
  cases b1'
  obtain ⟨hs, hlt, hb1', hb2'⟩ := ixN_seq hm
  obtain ⟨w, w1, w2⟩ := b3'.get hd'
  have e2' := b3'.length
  refine ⟨l2, vs2', n, m, w, rfl, rfl, b2', by omega, by omega, by rw [← e2']; exact hs, w1, ?_⟩
  have R2 := up2 (es.eraseIdx m) (vs2'.eraseIdx m) (b3'.erase m)
  have hi2 : (ρ.set j (some (.ol (es.eraseIdx m))))[i]? = some (some (.ol ds)) := by
    rw [List.getElem?_set_ne (fun z => hij z.symm)]; exact hi
  obtain ⟨l1', vs1', c1, c2, c3, up1⟩ := R2.app hi2
  rw [a1] at c1
  cases c1
  refine ⟨l1, vs1', w, rfl, rfl, c2, by rw [← c3.length]; exact Nat.lt_of_le_of_lt hz.1 (by decide), ?_⟩
  exact q _ _ _ (up1 _ _ (c3.append (.one w2))) g1.base
/-! ## [(k, d[k]) for k in d] -/
def keysD (ks : List (Str × D)) : List D := ks.map fun p => .tup [.str p.1, (dget ks p.1).getD .non]
def lkF (i j : Nat) (ρ : Env) : Option (List D) := match ρ[i]?, ρ[j]? with
  | some (some (.od ks)), some _ => if ks.length ≤ 1000 then some (keysD ks) else none
  | _, _ => none
theorem RpK.nth {x0 : Str} {d0 : D} : ∀ {ks : List (Str × D)} {kvs : List (Key × V)} {m : Nat}, RpK k H ks kvs → ks[m]? = some (x0, d0) → ∃ v0, kvs[m]? = some (.inr x0, v0)
  | _, _, _, .nil, h => by simp at h
  | _, _, 0, .cons h r, e => by
    simp only [List.getElem?_cons_zero, Option.some.injEq, Prod.mk.injEq] at e
    obtain ⟨rfl, rfl⟩ := e
    exact ⟨_, rfl⟩
  | _, _, m + 1, .cons h r, e => by
    obtain ⟨v0, h0⟩ := r.nth (m := m) (by simpa using e)
    exact ⟨v0, by simpa using h0⟩
theorem upd_comm {A : Hp} {p l : Addr} {o u : HO} (h : p ≠ l) : upd (upd A p o) l u = upd (upd A l u) p o := by
  funext b
  by_cases e : b = l
  · subst e
    rw [upd_same, upd_ne (fun z => h z.symm), upd_same]
  · rw [upd_ne e]
    by_cases e2 : b = p
    · subst e2
      rw [upd_same, upd_same]
    · rw [upd_ne e2, upd_ne e2, upd_ne e]
theorem upd_back {A : Hp} {l : Addr} {x u : HO} (h : A l = some u) : upd (upd A l x) l u = A := by
  funext b
  by_cases e : b = l
  · subst e
    rw [upd_same, h]
  · rw [upd_ne e, upd_ne e]
theorem wipe_at {σ : L2.St} {j i : Nat} (h : i ≠ j) : (L2.wipe σ [j])[i]? = σ[i]? := by
  show (σ.set j none)[i]? = σ[i]?
  rw [List.getElem?_set_ne (fun z => h z.symm)]
theorem el_lcKeys (i j : Nat) {x y : Str} {q1 q2 q3 q4 q5 q6 q7 : Pos} {n : Nat} {scope : Scope} (own : List (Str × Nat)) (how : own = [(y, j)]) (hij : i ≠ j) (hu : X.A.units + 64 < cLine) (hc : X.calm = true) (hN : X.N.Nodup) (hi : X.N[i]? = some x) (hj : X.N[j]? = some y) (hvx : Vis X.env.scope x) (hdx : (x == ("__debug__" : Str)) = false) (hcx : (x == ("__classdict__" : Str)) = false)
    (ok : BlkOk X.N X.env.scope scope own)
    (hg : ∀ (s : Shared) (H : Hp) (Cc : Addr) (cl : List (Str × Addr)) (fp : List Addr), PG (X.blk s H scope (compEnvC scope cl Cc X.env) fp) (.Name y q1) (gName j))
    (he : ∀ (s : Shared) (H : Hp) (Cc : Addr) (cl : List (Str × Addr)) (fp : List Addr), PE (X.blk s H scope (compEnvC scope cl Cc X.env) fp) (.Tuple [.Name y q2, .Subscript (.Name x q3) (.Name y q4) q5] n q6) (tTupF (tCons (tVar j) (tCons (tDGet (tVar i) (tVar j)) tNil))))
    (hs : ∀ z, foldedSetIterable (.Name x q7) X.env z = pure z := by intro _; rfl) :
    EL k C X (.ListComp (.Tuple [.Name y q2, .Subscript (.Name x q3) (.Name y q4) q5] n q6) [⟨.Name y q1, .Name x q7, [], 0⟩] scope pos) (fun ρ => lft (lkF i j ρ)) := by
  refine pe_imp (pe_lock (pe_lc (tt := tYes) hc hN (pi_keys (pe_var (pos := q7) (i := i) hi hvx hdx hcx)) ok hg (fun _ _ _ _ _ => pts_nil) he hs)) fun σ H Q ⟨E0, En, H0, ρ, t, res, t', R, ev, q⟩ => ?_
  subst how
  obtain ⟨e1, rfl⟩ := lft_some ev
  unfold lkF at e1
  split at e1 <;> try (cases e1; done)
  next z0 z1 ks sj hρi hρj =>
  split at e1 <;> try (cases e1; done)
  next hz =>
  cases e1
  obtain ⟨l, kvs, hσi, hl, rk, _⟩ := R.dpt hρi
  have hjl : j < σ.length := by rw [R.len]; exact (List.getElem?_eq_some_iff.mp hρj).1
  have l1 : ks.length = kvs.length := rk.length
  refine ⟨l, .dK kvs, hl, trivial, fun od => ?_⟩
  refine ⟨.ref l, hσi, l, od, rfl, .inl ⟨kvs, upd_same, fun p hp => ?_⟩⟩
  have npl : p ≠ l := fun z => by rw [z, upd_same] at hp; cases hp
  have hpH : H p = none := by rw [upd_ne npl] at hp; exact hp
  obtain ⟨n1, n0, nmp⟩ := R.fresh hpH
  refine ⟨fun i m HL => m = kvs.length - i ∧ i ≤ kvs.length ∧ ∃ Hc acc, Go C H0 H Hc (upd HL l (.dK kvs)) ∧ Ex Hc (upd HL l (.dK kvs)) ∧ C.rep t' (upd HL l (.dK kvs)) ∧ HL l = some (.frz od (.dK kvs)) ∧ Hc p = none ∧ HL p = some (.lst acc) ∧ RpA k Hc ((keysD ks).take i) acc ∧ acc.length ≤ i,
    ⟨kvs.length, by simp, Nat.zero_le _, H0, [], ?_, ?_, ?_, by rw [upd_ne (fun z => npl z.symm), upd_same], n0, upd_same, .nil, Nat.le_refl _⟩, ?_⟩
  · rw [upd_comm npl, upd_back hl]; exact Go.own hpH (by intro _ h; cases h)
  · rw [upd_comm npl, upd_back hl]; exact R.sub.trans (ex_new hpH)
  · rw [upd_comm npl, upd_back hl]; exact C.ext R.rep (ex_new hpH)
  rintro m0 m HL ⟨rfl, hle, Hc, acc, g, sx, rp, hLl, hcp, hLp, ra, hacc⟩
  by_cases hlt : m0 < kvs.length
  · obtain ⟨⟨x0, d0⟩, hks⟩ : ∃ q, ks[m0]? = some q := ⟨ks[m0]'(by omega), List.getElem?_eq_getElem (by omega)⟩
    have key := rk.nth hks
    obtain ⟨v0, hkv⟩ := key
    have dv := dget_val x0 rk
    obtain ⟨dd, w, hdd, hw, rw'⟩ : ∃ dd w, dget ks x0 = some dd ∧ valV kvs (.inr x0) = some w ∧ Rp k H0 dd w := by
      cases q0 : dget ks x0 with
      | none =>
        exfalso
        have gen : ∀ {ks : List (Str × D)} {m : Nat}, ks[m]? = some (x0, d0) → dget ks x0 ≠ none := by
          intro ks
          induction ks with
          | nil => intro m h; simp at h
          | cons a ks ih =>
            intro m h
            unfold dget
            split
            · simp
            · next hne =>
              cases m with
              | zero =>
                simp only [List.getElem?_cons_zero, Option.some.injEq] at h
                subst h
                exact absurd rfl hne
              | succ m => exact ih (by simpa using h)
        exact gen hks q0
      | some dd =>
        rw [q0] at dv
        obtain ⟨w, w1, w2⟩ := dv
        exact ⟨dd, w, rfl, w1, w2⟩
    refine .inr ⟨⟨hLl, hlt⟩, fun HL' => m0 + 1 ≤ kvs.length ∧ ∃ Hc acc, Go C H0 H Hc (upd HL' l (.dK kvs)) ∧ Ex Hc (upd HL' l (.dK kvs)) ∧ C.rep t' (upd HL' l (.dK kvs)) ∧ HL' l = some (.frz od (.dK kvs)) ∧ Hc p = none ∧ HL' p = some (.lst acc) ∧ RpA k Hc ((keysD ks).take (m0 + 1)) acc ∧ acc.length ≤ m0 + 1,
      fun HL' w => ⟨kvs.length - (m0 + 1), by omega, rfl, w⟩, fun xv H2 y2 => ?_⟩
    obtain ⟨rfl, kk, vv, hkk, rfl⟩ := y2
    rw [hkv] at hkk
    cases hkk
    refine ⟨?_, ?_⟩
    · show L2.wipe ((L2.wipe σ [j]).set j _) [j] = L2.wipe σ [j]
      rw [wipe_set List.mem_cons_self]
      show (σ.set j none).set j none = σ.set j none
      rw [List.set_set]
    · unfold tYes
      refine iteT ?_
      have sj : ((L2.wipe σ [j]).set j (some (kV (.inr x0))))[j]? = some (some (V.str x0)) := by
        rw [List.getElem?_set_self (by show j < (σ.set j none).length; rw [List.length_set]; exact hjl)]
        rfl
      have si : ((L2.wipe σ [j]).set j (some (kV (.inr x0))))[i]? = some (some (V.ref l)) := by
        rw [List.getElem?_set_ne (fun z => hij z.symm), wipe_at hij]
        exact hσi
      refine ⟨_, sj, _, si, _, sj, l, w, rfl, .inl ⟨kvs, .inr x0, .inr ⟨od, hLl⟩, rfl, hw.symm⟩, by show 2 ≤ sizeLine; decide, fun qa o hq hn => ?_⟩
      have nql : qa ≠ l := fun z => by rw [z, hLl] at hq; cases hq
      have nqp : qa ≠ p := fun z => by rw [z, hLp] at hq; cases hq
      have hqU : upd H2 l (.dK kvs) qa = none := by rw [upd_ne nql]; exact hq
      have R1 := R.step g sx rp
      obtain ⟨R2, g2⟩ := R1.new (.frz o (.tup [V.str x0, w])) hqU
      have eU : upd (upd (upd H2 qa (.frz o (.tup [V.str x0, w]))) p (.lst (acc ++ [.ref qa]))) l (.dK kvs) = upd (upd (upd H2 l (.dK kvs)) qa (.frz o (.tup [V.str x0, w]))) p (.lst (acc ++ [.ref qa])) := by
        rw [upd_comm npl, upd_comm nql]
      have hp2 : upd (upd H2 l (.dK kvs)) qa (.frz o (.tup [V.str x0, w])) p = some (.lst acc) := by
        rw [upd_ne (fun z => nqp z.symm), upd_ne npl]; exact hLp
      have hc2 : upd Hc qa (.frz o (.tup [V.str x0, w])) p = none := by rw [upd_ne (fun z => nqp z.symm)]; exact hcp
      refine ⟨acc, by rw [upd_ne (fun z => nqp z.symm)]; exact hLp, Nat.lt_of_le_of_lt (Nat.le_trans hacc (Nat.le_of_lt (Nat.lt_of_lt_of_le hlt (by rw [← l1]; exact hz)))) (by decide), hlt, upd Hc qa (.frz o (.tup [V.str x0, w])), acc ++ [.ref qa], ?_, ?_, ?_, ?_, hc2, upd_same, ?_, by rw [List.length_append, List.length_singleton]; omega⟩
      · rw [eU]; exact (g.trans g2).chg hpH
      · rw [eU]; exact R2.sub.mu hc2
      · rw [eU]; exact Cell.chg R2.rep hp2 trivial nmp
      · rw [upd_ne (fun z => npl z.symm), upd_ne (fun z => nql z.symm)]; exact hLl
      · have et : (keysD ks).take (m0 + 1) = (keysD ks).take m0 ++ [.tup [.str x0, dd]] := by
          rw [List.take_add_one]
          congr 1
          unfold keysD
          rw [List.getElem?_map, hks]
          show [D.tup [.str x0, (dget ks x0).getD .non]] = _
          rw [hdd]
          rfl
        rw [et]
        exact (ra.ex g2.base).append (.one (.tup upd_same hn (.cons (.str _) (.cons (rw'.ex (g.base.trans g2.base)) .nil))))
  · have e0 : m0 = kvs.length := by omega
    subst e0
    have ek : (keysD ks).take kvs.length = keysD ks := List.take_of_length_le (by unfold keysD; rw [List.length_map]; omega)
    rw [ek] at ra
    exact .inl ⟨⟨hLl, Nat.le_refl _⟩, hLl, q Hc _ p acc (R.step g sx rp) g hpH hcp (by rw [upd_ne npl]; exact hLp) ra⟩
end
end MM
/-! T6 -/
namespace MM
open PySem PySem.Spec PyProof.Rows L2
/-! ## max(xs, key=f) -/
def amax {α : Type} (kf : α → Int) : α → List α → α
  | b, [] => b
  | b, x :: xs => amax kf (if kf x > kf b then x else b) xs
section
variable {X : Cx} {pins : List (Addr × Obj)} {σ : L2.St} {H : Hp} {l S J q : Addr} {kf : V → Int} {ws : List V} {R : Result → Shared → Prop} {oq : Obj}
/-- the function's answer on each item, nothing else done -/
def KeyOk (X : Cx) (σ : L2.St) (H : Hp) (q : Addr) (oq : Obj) (kf : V → Int) (ws : List V) : Prop := ∀ (pins : List (Addr × Obj)) (s : Shared) (w : V) (u : Value), Inv X pins σ H s → (q, oq) ∈ pins → w ∈ ws → RelV w u →
  wpAny (model X.prog X.w) X.A.in1 (call (.ref q) [u]) (fun r s2 => Inv X pins σ H s2 ∧ ∃ t, r = .int (kf w) t) (fun _ _ => False) s
theorem Inv.upS {old new : List Value} {c : Nat} {s : Shared} (I : Inv X pins σ H s) (fS : FpOk X pins H S) (hS : s.heap.get? S = some (seqObj "list" old.toArray c)) :
    Inv X pins σ H { s with heap := s.heap.update S (Obj.mapSeq fun _ => new.toArray) } ∧ (∃ c2, (s.heap.update S (Obj.mapSeq fun _ => new.toArray)).get? S = some (seqObj "list" new.toArray c2)) := by
  obtain ⟨f0, f1, f2, f3, f4, f5⟩ := fS
  have sb := Heap.SameBut.update s.heap S (Obj.mapSeq fun _ => new.toArray)
  exact ⟨I.turned (t' := s.toks) (fun b o hb e => (sb.2 b hb).trans e) f0 f1 f3 f4 f5, ⟨_, get?_update_seq hS fun _ => new.toArray⟩⟩
theorem mx_loop (hh : X.A.handled = none) (hJS : J ≠ S) (hq : (q, oq) ∈ pins) (hk : KeyOk X σ H q oq kf ws) (hl : SqL X.K H l ws)
    (hR : ∀ s v u, Inv X pins σ H s → RelV v u → (∃ b xs, ws = b :: xs ∧ v = amax kf b xs) → R (.ok (.ret u)) s) :
    ∀ (r i : Nat) (s : Shared) (old : List Value) (c : Nat), i + r = ws.length → Inv X pins σ H s → FpOk X pins H S → FpOk X pins H J → s.heap.IsListIter J l i → s.heap.get? S = some (seqObj "list" old.toArray c) →
      (match i with
        | 0 => old = [] ∧ 0 < r
        | i + 1 => ∃ b vb tb, old = [vb, .int (kf b) tb] ∧ RelV b vb ∧ b ∈ ws ∧ ∃ b0 xs, ws = b0 :: xs ∧ amax kf b0 xs = amax kf b (ws.drop (i + 1))) →
      codeAny (model X.prog X.w) X.A (.builtin "max.loop" ⟨[.ref J, .ref q, .ref S], []⟩) R s := by
  have hname : (toString "max" ++ toString ".loop" : String) = "max.loop" := by decide
  intro r
  induction r with
  | zero =>
    intro i s old c hi I fS fJ hit hS hold
    obtain ⟨its, rv, pl, hz⟩ := I.list hl
    cases i with
    | zero => exact absurd hold.2 (Nat.lt_irrefl _)
    | succ i =>
      obtain ⟨b, vb, tb, rfl, rb, hb, b0, xs, e0, e1⟩ := hold
      refine codeAny_builtin PySem.F.entry_max_loop ?_
      rw [Around.under_plainId PySem.F.plain_max_loop _]
      show wpAny _ X.A.in1 (seqItems? (.ref S) >>= _) _ _ _
      refine wpAny_bind (wpAny_seqItems hS rfl ?_)
      show wpAny _ X.A.in1 (tryCatch (pyNext (.ref J)) _ >>= _) _ _ _
      obtain ⟨f0, f1, f2, f3, f4, f5⟩ := fJ
      refine wpAny_bind (wpAny_tryCatch (wpAny_pyNext_list_end (by exact hh) hit pl.isList (by have := rv.length; simp; omega) fun h' eb => ?_))
      have I1 : Inv X pins σ H { s with heap := h' } := I.turned (t' := s.toks) (fun b o hb e => eb b o hb e) f0 f1 f3 f4 f5
      have hS1 : h'.get? S = some (seqObj "list" [vb, .int (kf b) tb].toArray c) := eb S _ (Ne.symm hJS) hS
      obtain ⟨I2, _⟩ := Inv.upS (new := []) I1 fS hS1
      show wpAny _ X.A.in1 (updateSeq S (fun _ => #[]) >>= _) _ _ _
      refine wpAny_bind (wpAny_updateSeq hS1 rfl (wpAny_bind (wpAny_letGo (wpAny_pure ?_))))
      refine hR _ b vb I2 rb ⟨b0, xs, e0, ?_⟩
      rw [e1, List.drop_of_length_le (by omega)]
      rfl
  | succ r ih =>
    intro i s old c hi I fS fJ hit hS hold
    obtain ⟨its, rv, pl, hz⟩ := I.list hl
    have hlt : i < ws.length := by omega
    have hw : ws[i]? = some ws[i] := List.getElem?_eq_getElem hlt
    have hmem : ws[i] ∈ ws := List.getElem_mem hlt
    have hdrop : ws.drop i = ws[i] :: ws.drop (i + 1) := List.drop_eq_getElem_cons hlt
    generalize ws[i] = w at hw hmem hdrop
    obtain ⟨u, hu, ru⟩ := rv.get hw
    refine codeAny_builtin PySem.F.entry_max_loop ?_
    rw [Around.under_plainId PySem.F.plain_max_loop _]
    show wpAny _ X.A.in1 (seqItems? (.ref S) >>= _) _ _ _
    refine wpAny_bind (wpAny_seqItems hS rfl ?_)
    show wpAny _ X.A.in1 (tryCatch (pyNext (.ref J)) _ >>= _) _ _ _
    have fJ' := fJ
    obtain ⟨f0, f1, f2, f3, f4, f5⟩ := fJ
    refine wpAny_bind (wpAny_tryCatch (wpAny_pyNext_list_item hit pl.isList (x := u) (by simpa using hu) fun h1 it1 sb => ?_))
    have I1 : Inv X pins σ H { s with heap := h1 } := I.turned (t' := s.toks) (fun b o hb e => (sb.2 b hb).trans e) f0 f1 f3 f4 f5
    have hS1 : h1.get? S = some (seqObj "list" old.toArray c) := (sb.2 S (Ne.symm hJS)).trans hS
    obtain ⟨oJ, gJ, cJ, dJ⟩ := id it1
    have I2 : Inv X (pins ++ pinsAt [S, J] h1) σ H { s with heap := h1 } := I1.pinned (s := { s with heap := h1 }) (fun b hb => by
        rcases List.mem_cons.mp hb with rfl | hb
        · exact fS
        · rw [List.mem_singleton.mp hb]; exact fJ') fun b hb => by
      rcases List.mem_cons.mp hb with rfl | hb
      · exact ⟨_, hS1, fun v z => nomatch z⟩
      · rw [List.mem_singleton.mp hb]
        exact ⟨oJ, gJ, fun v z => by rw [dJ] at z; cases z⟩
    show wpAny _ X.A.in1 (tryCatch (holding [u] (call (.ref q) [u])) _ >>= _) _ _ _
    refine wpAny_bind (wpAny_tryCatch (wpAny_holding (wpAny_mono (hk _ _ w u I2 (List.mem_append_left _ hq) hmem ru) (fun x s2 he => ?_) fun _ _ hF => hF.elim)))
    obtain ⟨I3, t2, rfl⟩ := he
    have hS3 : s2.heap.get? S = some (seqObj "list" old.toArray c) := (I3.pin (S, _) (List.mem_append_right _ (List.mem_append_right _ (mem_pinsAt List.mem_cons_self hS1)))).1
    have it3 : s2.heap.IsListIter J l (i + 1) := ⟨oJ, (I3.pin (J, _) (List.mem_append_right _ (List.mem_append_right _ (mem_pinsAt (List.mem_cons_of_mem _ List.mem_cons_self) gJ)))).1, cJ, dJ⟩
    have I4 : Inv X pins σ H s2 := I3.unpinned
    cases i with
    | zero =>
      obtain ⟨rfl, _⟩ := hold
      obtain ⟨I5, c5, hS5⟩ := Inv.upS (new := [u, .int (kf w) t2]) I4 fS hS3
      show wpAny _ X.A.in1 (updateSeq S (fun _ => #[u, .int (kf w) t2]) >>= _) _ _ _
      refine wpAny_bind (wpAny_updateSeq hS3 rfl ?_)
      rw [hname]
      have sb5 := Heap.SameBut.update s2.heap S (Obj.mapSeq fun _ => [u, .int (kf w) t2].toArray)
      refine wpAny_pure ⟨plainId_quiet PySem.F.plain_max_loop _, ih 1 _ _ c5 (by omega) I5 fS fJ' (it3.at fun o e => (sb5.2 J hJS).trans e) hS5 ⟨w, u, t2, rfl, ru, hmem, w, ws.drop 1, ?_, rfl⟩⟩
      rw [List.drop_zero] at hdrop
      exact hdrop
    | succ i =>
      obtain ⟨b, vb, tb, rfl, rb, hb, b0, xs, e0, e1⟩ := hold
      show wpAny _ X.A.in1 (tryCatch (holding [u, .int (kf w) t2] (richCompare .Gt (.int (kf w) t2) (.int (kf b) tb) >>= _)) _ >>= _) _ _ _
      refine wpAny_bind (wpAny_tryCatch (wpAny_holding (wpAny_bind ?_)))
      show wpAny (model X.prog X.w) X.A.in1 (compareOp .Gt (.int (kf w) t2) (.int (kf b) tb)) _ _ _
      refine PyProof.Rows.gt_int (wpAny_bind (wpAny_holding (wpAny_truthy_bool ?_)))
      refine wpAny_bind (wpAny_letGo (wpAny_pure ?_))
      have step : amax kf b (ws.drop (i + 1)) = amax kf (if kf w > kf b then w else b) (ws.drop (i + 1 + 1)) := by rw [hdrop]; rfl
      by_cases hb' : kf w > kf b
      · obtain ⟨I5, c5, hS5⟩ := Inv.upS (new := [u, .int (kf w) t2]) I4 fS hS3
        have sb5 := Heap.SameBut.update s2.heap S (Obj.mapSeq fun _ => [u, .int (kf w) t2].toArray)
        rw [if_pos hb'] at step
        simp only [hb', decide_true, if_true]
        refine wpAny_bind (wpAny_updateSeq hS3 rfl (wpAny_bind (wpAny_letGo ?_)))
        rw [hname]
        exact wpAny_pure ⟨plainId_quiet PySem.F.plain_max_loop _, ih (i + 1 + 1) _ _ c5 (by omega) I5 fS fJ' (it3.at fun o e => (sb5.2 J hJS).trans e) hS5 ⟨w, u, t2, rfl, ru, hmem, b0, xs, e0, e1.trans step⟩⟩
      · rw [if_neg hb'] at step
        simp only [hb', decide_false, Bool.false_eq_true, if_false]
        refine wpAny_bind (wpAny_letGo ?_)
        rw [hname]
        exact wpAny_pure ⟨plainId_quiet PySem.F.plain_max_loop _, ih (i + 1 + 1) _ _ c (by omega) I4 fS fJ' it3 hS3 ⟨b, vb, tb, rfl, rb, hb, b0, xs, e0, e1.trans step⟩⟩
/-- max(xs, key=f) -/
theorem max_key {s : Shared} {Q : VK} (I : Inv X pins σ H s) (hh : X.A.handled = none) (hq : (q, oq) ∈ pins) (hk : KeyOk X σ H q oq kf ws) (hl : SqL X.K H l ws) {b : V} {xs : List V} (hws : ws = b :: xs) (hQ : Q (amax kf b xs) H) :
    wpAny (model X.prog X.w) X.A (call (.builtin "max") [.ref l] [(Str.ofString "key", .ref q)]) (EP X pins σ Q) X.xe s := by
  have hname : (toString "max" ++ toString ".loop" : String) = "max.loop" := by decide
  obtain ⟨its, rv, pl, hz⟩ := I.list hl
  have bind0 : Builtin.Builtins.bindParams "max" ["key", "default"] 0 ⟨[], [(Str.ofString "key", .ref q)]⟩ = pure [some (.ref q), none] := rfl
  refine kmk_tree PySem.F.kind_max PySem.F.plain_max PySem.F.entry_max (kmk_max_key _ _) ?_
  show wpAny _ X.A.in1 (Builtin.Builtins.bindParams "max" ["key", "default"] 0 ⟨[], [(Str.ofString "key", .ref q)]⟩ >>= _) _ _ s
  refine wpAny_bind (wpAny_of_eq bind0 (wpAny_bind (wpAny_pure (wpAny_bind (wpAny_pyIter_list pl.isList (wpAny_bind (wpAny_newList ?_ (Nat.zero_le _))))))))
  rw [hname]
  generalize hp1 : s.heap.push { cls := .type "list_iterator", data := .fields #[.ref l, .int 0 0] } = h1
  have sz1 : h1.objs.size = s.heap.objs.size + 1 := by rw [← hp1]; exact Heap.size_push _ _
  have g1 : h1.get? s.heap.objs.size = some { cls := .type "list_iterator", data := .fields #[.ref l, .int 0 0] } := by rw [← hp1]; exact Heap.get?_push_size _ rfl
  have k1 : ∀ b u, s.heap.get? b = some u → h1.get? b = some u := fun b u e => by rw [← hp1]; exact Heap.get?_push_of_some _ e
  have I2 : Inv X pins σ H { s with heap := h1.push (seqObj "list" #[] 0) } := I.kept (t' := s.toks) fun b u e => Heap.get?_push_of_some _ (k1 b u e)
  have le1 : s.heap.objs.size ≤ h1.objs.size := by rw [sz1]; exact Nat.le_succ _
  refine wpAny_pure ⟨plainId_quiet PySem.F.plain_max_loop _, mx_loop (S := h1.objs.size) (J := s.heap.objs.size) hh (Nat.ne_of_lt (by rw [sz1]; exact Nat.lt_succ_self _)) hq hk hl (fun s' v u I' r hv => ?_) ws.length 0 _ [] 0 (by omega) I2 (I.fpOk le1 (I.hok.fresh le1)) (I.fpOk (Nat.le_refl _) (I.hok.fresh (Nat.le_refl _))) ⟨_, Heap.get?_push_of_some _ g1, rfl, rfl⟩ (Heap.get?_push_size _ rfl) ⟨rfl, by rw [hws]; exact Nat.succ_pos _⟩⟩
  obtain ⟨b', xs', e1, e2⟩ := hv
  rw [hws] at e1
  cases e1
  exact ⟨v, H, I', r, by rw [e2]; exact hQ⟩
end
end MM
/-! T7 -/
namespace MM
open PySem PySem.Spec PyProof.Rows L2
open LamX (Tabs TabS TabB ExtN CodeO lamEnv lamCx)
/-! ## lambda x: body, x its one name -/
structure LamP (sc scope : Scope) (p : Str) : Prop where
  kind : scope.kind = .function
  co : scope.isCoroutine = false
  gen : scope.isGenerator = false
  own : ∀ y ∈ scope.names, y.2 ≠ .cell ∧ (y.2 = .local → y.1 = p)
  par : scope.names.lookup p = some .local
  free : ∀ y ∈ scope.names, y.2 = .free → sc.names.lookup y.1 = some .cell ∨ sc.names.lookup y.1 = some .free
def lamPB (sc scope : Scope) (p : Str) : Bool :=
  decide (scope.kind = .function) && (!scope.isCoroutine && (!scope.isGenerator && (decide (scope.names.lookup p = some .local) && scope.names.all fun y => !decide (y.2 = .cell) && ((!decide (y.2 = .local) || decide (y.1 = p)) && (!decide (y.2 = .free) || (decide (sc.names.lookup y.1 = some .cell) || decide (sc.names.lookup y.1 = some .free)))))))
theorem lamP_by {sc scope : Scope} {p : Str} (h : lamPB sc scope p = true) : LamP sc scope p := by
  unfold lamPB at h
  simp only [Bool.and_eq_true, Bool.or_eq_true, Bool.not_eq_true', decide_eq_true_eq, decide_eq_false_iff_not, List.all_eq_true] at h
  obtain ⟨h1, h2, h3, h4, h5⟩ := h
  exact ⟨h1, h2, h3, fun y hy => ⟨(h5 y hy).1, fun e => (h5 y hy).2.1.resolve_left fun z => z e⟩, h4, fun y hy e => (h5 y hy).2.2.resolve_left fun z => z e⟩
section
variable {X : Cx} {pins : List (Addr × Obj)} {σ : L2.St} {H : Hp} {s : Shared} {scope : Scope} {p : Str} {ip : Nat} {f c' : Addr} {E : XK}
theorem LamP.has (L : LamP X.env.scope scope p) (ok : X.Ok) : ∀ y ∈ scope.names, y.2 = .free → ∃ c, X.env.cells.lookup y.1 = some c := fun y hy e => ok.has _ (L.free y hy e)
theorem lam_in {v : V} {u : Value} {h₁ : Heap} {tk : Nat} {A : Around} (I : Inv X pins σ H s) (L : LamP X.env.scope scope p) (e0 : Env0 X.prog X.w X.K X.mg X.base A X.stack s H) (hd : A.handled = none) (hns : h₁.Ns s.heap.objs.size fun y => [(p, u)].reverse.lookup y)
    (kp : ∀ b o, s.heap.get? b = some o → h₁.get? b = some o) (hi : X.N[ip]? = some p) (hN : X.N.Nodup) (rv : RelV v u) : Inv (lamCx X A X.stack s H E scope f c') [] (σ.set ip (some v)) H { s with heap := h₁, toks := tk } := by
  have hfree := L.has I.ok
  have cellOf : ∀ {y c}, (cloFrom X.env.cells scope.names []).lookup y = some c → X.env.cells.lookup y = some c := fun {y c} e => by
    rcases cloFrom_mem (PySem.mem_of_lookup e) with hm | ⟨h1, h2⟩
    · exact nomatch hm
    · obtain ⟨c1, hc⟩ := hfree _ h1 rfl
      have hc : X.env.cells.lookup y = some c1 := hc
      rw [show c = c1 by rw [h2, hc] <;> rfl]
      exact hc
  have toCell : ∀ {y}, scope.names.lookup y = some .free → ∃ c, (cloFrom X.env.cells scope.names []).lookup y = some c := fun {y} hl =>
    mem_lookup (cloFrom_has (cells := X.env.cells) (acc := []) (PySem.mem_of_lookup hl : (y, NameKind.free) ∈ scope.names))
  have cellK : ∀ {c : Addr} {v : Option Value}, s.heap.IsCell c v → h₁.IsCell c v := fun {c v} ⟨o, ho, hd⟩ => ⟨o, kp _ _ ho, hd⟩
  have noA : ∀ b : Addr, b ∉ (lamCx X A X.stack s H E scope f c').ex := fun b z => nomatch (show b ∈ ([] : List Addr) from z)
  refine ⟨⟨e0.mod, L.kind, rfl, rfl, Nat.le_refl _, fun y z c e1 e2 => I.ok.inj y z c (cellOf e1) (cellOf e2), fun y hy => ?_, fun y c z _ => (by have z : false = true := z; cases z), fun _ => hd, Around.frames_deeper e0.frames, .inr ⟨rfl, rfl⟩, fun b z => absurd z (noA b), e0.bs, e0.bsz, fun b _ _ => noA b,
      fun b z => absurd z (noA b), e0.funs, e0.frf⟩,
    rfl, e0.bare, Un.kept kp, ⟨_, hns, fun i y v' e1 e2 e3 => ?_⟩, fun y c e => ?_, e0.hok.fresh (Nat.le_refl _), fun y c e => I.freeC y c (cellOf e), fun q hq => absurd (show q ∈ ([] : List (Addr × Obj)) ++ [] from hq) (by simp), e0.hok.kept kp, by rw [List.length_set]; exact I.len⟩
  · rcases (show scope.names.lookup y = some .cell ∨ scope.names.lookup y = some .free from hy) with hy | hy
    · exact absurd rfl (L.own _ (PySem.mem_of_lookup hy)).1
    · exact toCell hy
  · by_cases hy : i = ip
    · subst hy
      have e1 : X.N[i]? = some y := e1
      rw [hi] at e1
      cases e1
      have hl : i < σ.length := by rw [I.len]; exact (List.getElem?_eq_some_iff.mp hi).1
      rw [List.getElem?_set_self hl] at e2
      cases e2
      exact ⟨u, rv, .inl ⟨L.par, by simp⟩⟩
    · rw [List.getElem?_set_ne (fun z => hy z.symm)] at e2
      rcases (show Vis scope y from e3) with k | k | k
      · have ey := (L.own _ (PySem.mem_of_lookup k)).2 rfl
        have ey : y = p := ey
        rw [ey] at e1
        exact absurd ((List.getElem?_inj (List.getElem?_eq_some_iff.mp hi).1 hN).mp (hi.trans (show X.N[i]? = some p from e1).symm)).symm hy
      · exact absurd rfl (L.own _ (PySem.mem_of_lookup k)).1
      · obtain ⟨m, hn, hl⟩ := I.loc
        obtain ⟨w', r, q⟩ := hl i y v' e1 e2 ((L.free _ (PySem.mem_of_lookup k) rfl).elim (fun k => .inr (.inl k)) (fun k => .inr (.inr k)))
        obtain ⟨c2, h2⟩ := toCell k
        refine ⟨w', r, .inr ⟨.inr k, c2, h2, ?_⟩⟩
        rcases q with ⟨k', _⟩ | ⟨_, c3, e', z⟩
        · have k' : X.env.scope.names.lookup y = some .local := k'
          rcases L.free _ (PySem.mem_of_lookup k) rfl with k2 | k2 <;> rw [show X.env.scope.names.lookup y = _ from k2] at k' <;> cases k'
        · rw [cellOf h2] at e'
          cases e'
          exact cellK z
  · obtain ⟨w', z⟩ := I.cell y c (cellOf e)
    exact ⟨w', cellK z⟩
/-- the lambda called on each item -/
theorem lam_key {params : Arguments} {body : Expr} {pm ctv : Value} {tb : TE} {kf : V → Int} {ws : List V} {k0 : Nat} (hr : Room (k0 + 2) X.A) (L : LamP X.env.scope scope p) (hi : X.N[ip]? = some p) (hN : X.N.Nodup)
    (hco : H c' = some (CodeO c' (X.env.qual ++ "<lambda>")))
    (hbind : ∀ (q : Str) (cl : List (Str × Addr)) (pm cv ctv u : Value), bindArgs (PySem.W.kla_fn "<lambda>" q params body scope cl pm cv ctv) ⟨[u], []⟩ = pure [(p, u)])
    (hbody : ∀ (A : Around) (s : Shared) (H : Hp) (f c' : Addr), Room k0 (A.deeper (lamEnv X scope s.heap.objs.size f c')) → PE (lamCx X A X.stack s H (fun _ _ _ => False) scope f c').nox body tb)
    (htb : ∀ w ∈ ws, tb (σ.set ip (some w)) H fun v H' => v = .int (kf w) ∧ H' = H) :
    KeyOk X σ H f (PySem.W.kla_obj "<lambda>" (X.env.qual ++ "<lambda>") params body scope (cloFrom X.env.cells scope.names []) pm c' ctv) kf ws := by
  intro pins s w u I hq hw ru
  obtain ⟨of1, _⟩ := I.pin _ (List.mem_append_right _ hq)
  obtain ⟨⟨oc, vs, t, hoc, hdc, hvc⟩, _, _⟩ := I.hok c' _ hco
  have r1 : Room (k0 + 1) X.A.in1 := hr.in1
  have rc : codeAny (model X.prog X.w) X.A.in1 (.call (.ref f) ⟨[u], []⟩) (CR C8.CX0 X.stack X.prog X.w H s (fun v H' => v = .int (kf w) ∧ H' = H) C8.E0) s := by
    refine PySem.W.kla_callFunE r1.depth of1 rfl L.co L.gen rfl ⟨c', oc, vs, t, rfl, hoc, hdc, hvc⟩ ?_
    rw [hbind]
    refine wpAny_pure (wpAny_newFunctionEnv (fun y hy => (L.own y hy).1) (fun y hy => by rw [List.mem_singleton.mp hy]; exact L.par) (fun h₁ hns hsb => ⟨I.nolimit.fresh _ hsb, ?_⟩) L.kind)
    show codeAny _ _ (.expr body (lamEnv X scope s.heap.objs.size f c')) _ _
    have kp : ∀ b o, s.heap.get? b = some o → h₁.get? b = some o := fun b o e => hsb.extBut b o (Nat.ne_of_lt (Heap.lt_size e)) (Heap.get?_push_of_some _ e)
    have e0 : Env0 X.prog X.w X.K X.mg X.base X.A.in1 X.stack s H := ⟨I.env0.frames, I.env0.mod, I.env0.bs, I.env0.bsz, I.env0.funs, I.env0.frf, I.env0.hok, I.env0.bare⟩
    have J : Inv (lamCx X X.A.in1 X.stack s H (fun _ _ _ => False) scope f c') [] (σ.set ip (some w)) H { s with heap := h₁, toks := s.toks + [(p, u)].length } := lam_in I L e0 r1.hd hns kp hi hN ru
    refine PySem.W.kla_codeExpr (wpAny_mono ((hbody _ s H f c' (r1.deeper _)).run [] _ _ H _ (J.wish _) (htb w hw)) (fun v s' hq => ?_) fun e s' hq => False.elim hq)
    obtain ⟨w', H', J', rv, q⟩ := hq
    have J' := J'.unwish
    exact ⟨w', H', J'.os, J'.bare, J'.base, J'.hok, rv, q⟩
  refine wpAny_call (codeAny_mono rc fun r s' hq => ?_)
  cases r with
  | error e => exact (show False from hq).elim
  | ok fl =>
    cases fl with
    | ret u' =>
      obtain ⟨v, H', I', rv, ev, eH⟩ := I.after hq
      subst eH ev
      obtain ⟨t', rfl⟩ := rv
      exact ⟨I', t', rfl⟩
    | next => exact False.elim hq
    | brk => exact False.elim hq
    | cont => exact False.elim hq
end
end MM
/-! T8 -/
namespace MM
open PySem PySem.Spec PyProof.Rows L2
open LamX (Tabs TabS TabB ExtN CodeO lamEnv lamCx)
section
variable {X : Cx} {pins : List (Addr × Obj)} {σ : L2.St} {H : Hp} {s : Shared}
/-- what the making of a lambda does to the abstract heap -/
def Made (H H1 : Hp) (P : Addr) (q : Str) : Prop := H1 = H ∨ ∃ (ps ps' : Array Value) (c' : Addr), H P = some (.tbl ps) ∧ H c' = none ∧ H1 = upd (upd H P (.tbl ps')) c' (CodeO c' q)
theorem lam_mk {T : List (Addr × Str)} {c P : Addr} {params : Arguments} {body : Expr} {scope : Scope} {pos : Pos} {E : Value → Shared → Prop} {Q : Value → Shared → Prop} (I : Inv X pins σ H s) (TB : TabB X.base X.mg c P) (hcode : X.env.code = .ref c)
    (hm : (P, X.env.qual ++ "<lambda>") ∈ T) (hu : ∀ p ∈ T, p.1 = P → p.2 = X.env.qual ++ "<lambda>") (hT : Tabs T H) (hdef : defaultsOf params X.env = ([], [])) (hfree : ∀ y ∈ scope.names, y.2 = .free → ∃ c, X.env.cells.lookup y.1 = some c)
    (h : ∀ (f c' : Addr) (pm ctv : Value) (H1 : Hp) (s' : Shared), Inv X pins σ H1 s' → Made H H1 P (X.env.qual ++ "<lambda>") → Tabs T H1 →
      s'.heap.get? f = some (PySem.W.kla_obj "<lambda>" (X.env.qual ++ "<lambda>") params body scope (cloFrom X.env.cells scope.names []) pm c' ctv) → FpOk X pins H1 f → H1 c' = some (CodeO c' (X.env.qual ++ "<lambda>")) → Q (.ref f) s') :
    wpAny (model X.prog X.w) X.A (eval (.Lambda params body scope pos) X.env) Q E s := by
  obtain ⟨ps, hP, ht, ha⟩ := hT _ hm
  have bP : s.heap.BuiltinsAt X.mg P := TB.bm.keeps I.bk
  have hP' : s.heap.get? P = some { cls := .none, data := .fields ps } := I.hok P _ hP
  refine PySem.W.kla_eval hdef ?_
  rcases hc : codeAmong pos ps.toList with _ | cv
  · refine PySem.W.kla_makeFunction (mg := X.mg) (c := c) (P := P) (ps := ps) (closure_ok hfree) I.ok.glob (I.mod.glob.keeps I.bk) hcode (TB.code.keeps I.bk) hP' ht hc TB.gP bP fun c' ctv h' tk hx hge hlt hrec htb => ?_
    obtain ⟨c2, oc, vs, t, e2, hoc, hd, hv⟩ := hrec
    cases e2
    have hsz : s.heap.objs.size ≤ h'.objs.size := Nat.le_trans hge (Nat.le_of_lt hlt)
    have nC : H c' = none := I.hok.fresh hge
    have nF : H h'.objs.size = none := I.hok.fresh hsz
    have ltP : P < s.heap.objs.size := Heap.lt_size hP'
    have I1 := LamX.inv_table (t' := tk) (more := #[rawInt pos.line, rawInt pos.col, .ref c']) (h' := h'.push (PySem.W.kla_obj "<lambda>" (X.env.qual ++ "<lambda>") params body scope (cloFrom X.env.cells scope.names []) ((X.mg "__name__").getD .none) c' ctv)) I hP
      (fun b o hb e => Heap.get?_push_of_some _ (hx b o hb e)) (Heap.get?_push_of_some _ htb) hge ⟨oc, vs, t, Heap.get?_push_of_some _ hoc, hd, hv⟩
    have old : ∀ b o, H b = some o → b ≠ P → upd (upd H P (.tbl (ps ++ #[rawInt pos.line, rawInt pos.col, .ref c']))) c' (CodeO c' (X.env.qual ++ "<lambda>")) b = some o := fun b o e n => by
      rw [upd_ne (ne_of_none e nC), upd_ne n]
      exact e
    have codes : ∀ c0, H c0 = some (CodeO c0 (X.env.qual ++ "<lambda>")) → upd (upd H P (.tbl (ps ++ #[rawInt pos.line, rawInt pos.col, .ref c']))) c' (CodeO c' (X.env.qual ++ "<lambda>")) c0 = some (CodeO c0 (X.env.qual ++ "<lambda>")) := fun c0 e =>
      old c0 _ e fun z => by rw [z, hP] at e; exact LamX.codeO_ne ps (Option.some.inj e).symm
    have eL : (ps ++ #[rawInt pos.line, rawInt pos.col, .ref c']).toList = ps.toList ++ [rawInt pos.line, rawInt pos.col, .ref c'] := by simp
    refine h h'.objs.size c' ((X.mg "__name__").getD .none) ctv _ _ I1 (.inr ⟨ps, _, c', hP, nC, rfl⟩) (fun p hp => ?_) (Heap.get?_push_size _ rfl) (I.fpOk hsz ?_) upd_same
    · by_cases hb : p.1 = P
      · rw [hu p hp hb, hb]
        refine ⟨_, by rw [upd_ne (ne_of_none hP nC), upd_same], by rw [eL]; exact PySem.TriplesOk_snoc _ _ _ _ ht, fun p' cv hcv => ?_⟩
        rw [eL] at hcv
        rcases LamX.among_app _ ht hcv with z | z
        · obtain ⟨c0, e1, e2⟩ := ha p' cv z
          exact ⟨c0, e1, codes c0 e2⟩
        · exact ⟨c', z, upd_same⟩
      · obtain ⟨ps', a1, a2, a3⟩ := hT p hp
        refine ⟨ps', old _ _ a1 hb, a2, fun p' cv hcv => ?_⟩
        obtain ⟨c0, e1, e2⟩ := a3 p' cv hcv
        refine ⟨c0, e1, old _ _ e2 fun z => ?_⟩
        rw [z, hP] at e2
        exact LamX.codeO_ne ps (Option.some.inj e2).symm
    · rw [upd_ne (Nat.ne_of_gt hlt), upd_ne (Nat.ne_of_gt (Nat.lt_of_lt_of_le ltP hsz))]
      exact nF
  · obtain ⟨c', rfl, hco⟩ := ha pos cv hc
    refine PySem.W.kla_makeFunctionHit (mg := X.mg) (c := c) (P := P) (ps := ps) (closure_ok hfree) I.ok.glob (I.mod.glob.keeps I.bk) hcode (TB.code.keeps I.bk) hP' ht hc bP fun ctv h' tk hx hsz => ?_
    exact h h'.objs.size c' ((X.mg "__name__").getD .none) ctv H _ (I.kept fun b o e => Heap.get?_push_of_some _ (hx b o e)) (.inl rfl) hT (Heap.get?_push_size _ rfl) (I.fpOk hsz (I.hok.fresh hsz)) hco
end
section
variable {T : Type} {k : Kx} {C : Cell T} {E0 En H0 H H1 : Hp} {σ : L2.St} {ρ : Env} {t t' : T}
theorem codeO_nt {c : Addr} {q : Str} : NT (CodeO c q) := fun ps z => LamX.codeO_ne ps z
/-- the heap goes on where a lambda is made -/
theorem RS.made {P : Addr} {q : Str} (R : RS k C E0 En H0 H σ ρ t) (hP : C.mu P) (m : Made H H1 P q) (hr : C.rep t H1) : RS k C E0 En H0 H1 σ ρ t ∧ Go C H0 H H0 H1 := by
  rcases m with rfl | ⟨ps, ps', c', e1, e2, rfl⟩
  · exact ⟨R, Go.refl⟩
  · have nP : P ≠ c' := ne_of_none e1 e2
    have z1 : H0 P = Option.none := (R.nomut hP).1
    have z2 : H0 c' = Option.none := R.sub.free e2
    have g : Go C H0 H H0 (upd (upd H P (.tbl ps')) c' (CodeO c' q)) := ⟨Same.refl _, fun a o e n => by
        rw [upd_ne (ne_of_none e e2), upd_ne (fun z => n (by rw [z]; exact hP))]
        exact e, fun _ _ n => n, fun a z => by
          by_cases h : a = c'
          · rw [h]; exact e2
          · rw [upd_ne h] at z
            by_cases h2 : a = P
            · rw [h2, upd_same] at z; cases z
            · rw [upd_ne h2] at z; exact z, fun a qs z => by
          by_cases h : a = c'
          · rw [h, upd_same] at z
            exact absurd (Option.some.inj z) (codeO_nt qs)
          · rw [upd_ne h] at z
            by_cases h2 : a = P
            · rw [h2]; exact .inr hP
            · rw [upd_ne h2] at z; exact .inl ⟨qs, z⟩⟩
    refine ⟨R.step g (fun a o e => ?_) hr, g⟩
    rw [upd_ne (ne_of_none e z2), upd_ne (ne_of_none e z1)]
    exact R.sub _ _ e
/-! ### max(every, key=lambda cpu: names.index(seats[cpu])) -/
def keyI (nm : List Str) (ks : List (Str × D)) (c : Str) : Option Nat := match dget ks c with
  | some (.str m) => idxOf m nm
  | _ => none
def maxF (iE iN iS ic : Nat) (ρ : Env) : Option D := match vV iE ρ, vV iN ρ, vV iS ρ, ρ[ic]? with
  | some (.lst es), some (.lst ns), some (.dct ks), some _ => match txts es, txts ns with
    | some (b :: xs), some nm => if (b :: xs).all (fun c => (keyI nm ks c).isSome) then some (.str (amax (fun c => (((keyI nm ks c).getD 0 : Nat) : Int)) b xs)) else none
    | _, _ => none
  | _, _, _, _ => none
def kfV (nm : List Str) (ks : List (Str × D)) : V → Int
  | .str c => (((keyI nm ks c).getD 0 : Nat) : Int)
  | _ => 0
theorem amax_map (nm : List Str) (ks : List (Str × D)) : ∀ (b : Str) (xs : List Str), amax (kfV nm ks) (.str b) (xs.map V.str) = .str (amax (fun c => (((keyI nm ks c).getD 0 : Nat) : Int)) b xs)
  | b, [] => rfl
  | b, x :: xs => by
    show amax (kfV nm ks) (if kfV nm ks (.str x) > kfV nm ks (.str b) then .str x else .str b) (xs.map V.str) = _
    have e : (if kfV nm ks (.str x) > kfV nm ks (.str b) then V.str x else V.str b) = V.str (if (((keyI nm ks x).getD 0 : Nat) : Int) > (((keyI nm ks b).getD 0 : Nat) : Int) then x else b) := by
      show (if (((keyI nm ks x).getD 0 : Nat) : Int) > (((keyI nm ks b).getD 0 : Nat) : Int) then V.str x else V.str b) = _
      split <;> rfl
    rw [e]
    exact amax_map nm ks _ xs
theorem ed_maxlam {X : Cx} {Tb : List (Addr × Str)} {c P : Addr} {iE iN iS ic : Nat} {xe xn xs xc : Str} {params : Arguments} {scope : Scope} {p1 p2 p3 p4 p5 p6 p7 lpos pos kpos apos : Pos} {k0 : Nat}
    (hc : X.calm = true) (hN : X.N.Nodup) (hm : X.mg "max" = Option.none) (hg : Gl X "max") (hiE : X.N[iE]? = some xe) (hiN : X.N[iN]? = some xn) (hiS : X.N[iS]? = some xs) (hic : X.N[ic]? = some xc)
    (hvE : Vis X.env.scope xe) (hdE : (xe == ("__debug__" : Str)) = false) (hcE : (xe == ("__classdict__" : Str)) = false)
    (TB : TabB X.base X.mg c P) (hcode : X.env.code = .ref c) (hmT : (P, X.env.qual ++ "<lambda>") ∈ Tb) (hu : ∀ p ∈ Tb, p.1 = P → p.2 = X.env.qual ++ "<lambda>") (hC : ∀ t H, C.rep t H → Tabs Tb H) (hCb : ∀ t H H1, C.rep t H → Made H H1 P (X.env.qual ++ "<lambda>") → Tabs Tb H1 → C.rep t H1) (hP : C.mu P)
    (hr : Room (k0 + 2) X.A) (L : LamP X.env.scope scope xc) (hdef : defaultsOf params X.env = ([], []))
    (hne : ic ≠ iN) (hne2 : ic ≠ iS)
    (hbind : ∀ (q : Str) (cl : List (Str × Addr)) (pm cv ctv u : Value), bindArgs (PySem.W.kla_fn "<lambda>" q params (.Call (.Attribute (.Name xn p3) "index" p4) [.Subscript (.Name xs p5) (.Name xc p6) p7] [] apos) scope cl pm cv ctv) ⟨[u], []⟩ = pure [(xc, u)])
    (hbody : ∀ (A : Around) (s : Shared) (H : Hp) (f c' : Addr), Room k0 (A.deeper (lamEnv X scope s.heap.objs.size f c')) → PE (lamCx X A X.stack s H (fun _ _ _ => False) scope f c').nox (.Call (.Attribute (.Name xn p3) "index" p4) [.Subscript (.Name xs p5) (.Name xc p6) p7] [] apos) (tBM X.K "list" (rIndex X.K) (tVar iN) (tCons (tDGet (tVar iS) (tVar ic)) tNil)))
    (he : backTo pos (starEach [.Name xe p2] X.env) = (false, eval (.Name xe p2) X.env) :: backTo pos (starEach [] X.env) := by rfl) (hpl : (backTo pos (starEach [.Name xe p2] X.env)).any (·.1) = false := by rfl)
    (hs : starEach [.Name xe p2] X.env = (false, eval (.Name xe p2) X.env) :: starEach [] X.env := by rfl) :
    ED k C X (.Call (.Name "max" p1) [.Name xe p2] [⟨some "key", .Lambda params (.Call (.Attribute (.Name xn p3) "index" p4) [.Subscript (.Name xs p5) (.Name xc p6) p7] [] apos) scope lpos, kpos⟩] pos) (fun ρ => lft (maxF iE iN iS ic ρ)) := by
  refine ⟨fun pins s σ H Q I ⟨E0, En, H0, ρ, t, d, t', R, ev, q⟩ => ?_⟩
  obtain ⟨e1, rfl⟩ := lft_some ev
  unfold maxF at e1
  split at e1 <;> try (cases e1; done)
  next es ns ks sc hE hNm hS hcs =>
  split at e1 <;> try (cases e1; done)
  next b bs nm he1 he2 =>
  split at e1 <;> try (cases e1; done)
  next hall =>
  cases e1
  obtain ⟨_, sE, vE, rfl, rE⟩ := slot_at R (vV_some hE)
  obtain ⟨_, sN, vN, rfl, rN⟩ := slot_at R (vV_some hNm)
  obtain ⟨_, sS, vS, rfl, rS⟩ := slot_at R (vV_some hS)
  have hlc : ic < σ.length := by rw [R.len]; exact (List.getElem?_eq_some_iff.mp hcs).1
  cases rE with
  | lst aE lE =>
    cases rN with
    | lst aN lN =>
      cases rS with
      | dct aS lS =>
        next pE vsE pN vsN pS kvs =>
        have z1 := strs_vals lE he1
        have z2 := strs_vals lN he2
        subst z1 z2
        refine wpAny_Call_Name_kw (ld_blt I hg hm (by rfl) ?_ (by decide) (by decide))
        refine PyProof.Rows.callWith_kw (kws := [⟨some "key", .Lambda params _ scope lpos, kpos⟩]) (thn ((pa_cons (pe_var (pos := p2) (i := iE) hiE hvE hdE hcE) pa_nil hs).run pos pins s σ H (fun vs H1 => vs = [.ref pE] ∧ H1 = H) I ⟨.ref pE, sE, rfl, rfl⟩) fun us s1 w => ?_) he hpl rfl rfl
        obtain ⟨vs, H1, I1, r1, rfl, rfl⟩ := w
        obtain rfl := Vals.ref1 r1
        show wpAny _ _ (evalAll ((do let v ← eval _ X.env; standAt pos; pure v) :: [])) _ _ s1
        refine wpAny_evalAll_cons (wpAny_bind (lam_mk I1 TB hcode hmT hu (hC _ _ R.rep) hdef (L.has I1.ok) fun f c' pm ctv H2 s2 I2 md T2 hf ff hco => wpAny_bind (wpAny_standAt (wpAny_pure ?_))))
        refine wpAny_evalAll_nil ?_
        obtain ⟨R2, g2⟩ := R.made hP md (hCb _ _ _ R.rep md T2)
        have I3 : Inv X (pins ++ [(f, PySem.W.kla_obj "<lambda>" (X.env.qual ++ "<lambda>") params (.Call (.Attribute (.Name xn p3) "index" p4) [.Subscript (.Name xs p5) (.Name xc p6) p7] [] apos) scope (cloFrom X.env.cells scope.names []) pm c' ctv)]) σ H2 s2 := I2.pins_of fun z hz => by
          rcases List.mem_append.mp hz with hz | hz
          · exact I2.pin z (List.mem_append_right _ hz)
          · rw [List.mem_singleton.mp hz]
            exact ⟨hf, ff.1, ff.2.1, ff.2.2.1, fun v z => nomatch z⟩
        have key := lam_key (σ := σ) (f := f) (pm := pm) (ctv := ctv) (ip := ic) (kf := kfV nm ks) (ws := (b :: bs).map V.str) hr L hic hN hco hbind hbody fun w hw => ?_
        · have mk := max_key (Q := Q) I3 (I3.ok.hd hc) (List.mem_append_right _ List.mem_cons_self) key (.inl (.inl (R2.sub _ _ aE))) (b := .str b) (xs := bs.map V.str) rfl (by
            rw [amax_map]
            exact q _ _ _ R2 g2 (.str _))
          exact wpAny_mono mk (fun v s4 ⟨w, H4, I4, r4, q4⟩ => ⟨w, H4, I4.unpinned, r4, q4⟩) fun _ _ z => z
        · obtain ⟨cc, hcc, rfl⟩ := List.mem_map.mp hw
          have hk := List.all_eq_true.mp hall cc hcc
          unfold keyI at hk
          have dv := dget_val cc lS
          cases hd : dget ks cc with
          | none => rw [hd] at hk; cases hk
          | some dm =>
            rw [hd] at hk dv
            cases dm with
            | str m =>
              have hk : (idxOf m nm).isSome = true := hk
              obtain ⟨v0, hv0, rv0⟩ := dv
              cases rv0
              obtain ⟨jj, hj⟩ := Option.isSome_iff_exists.mp hk
              obtain ⟨j1, j2⟩ := idxOf_some hj
              have sN' : (σ.set ic (some (V.str cc)))[iN]? = some (some (V.ref pN)) := by rw [List.getElem?_set_ne hne]; exact sN
              have sS' : (σ.set ic (some (V.str cc)))[iS]? = some (some (V.ref pS)) := by rw [List.getElem?_set_ne hne2]; exact sS
              have sc' : (σ.set ic (some (V.str cc)))[ic]? = some (some (V.str cc)) := List.getElem?_set_self hlc
              refine ⟨_, sN', .inl ⟨rfl, nm.map V.str, .inl (.inl (R2.sub _ _ aN))⟩, _, sS', _, sc', pS, .str m, rfl, .inl ⟨kvs, .inr cc, .inl (R2.sub _ _ aS), rfl, hv0.symm⟩, pN, nm.map V.str, .str m, jj, .str m, rfl, rfl, .inl (.inl (R2.sub _ _ aN)), rfl, flat_strs nm, by rw [List.getElem?_map, j1]; rfl, by simp [eqV], fun m' z hm' hz => ?_, ?_, rfl⟩
              · rw [List.getElem?_map] at hz
                cases hy : nm[m']? with
                | none => rw [hy] at hz; cases hz
                | some y' =>
                  rw [hy] at hz
                  cases hz
                  have : y' ≠ m := fun z => j2 m' hm' (by rw [hy, z])
                  simp [eqV, this]
              · show V.int (jj : Int) = .int (((keyI nm ks cc).getD 0 : Nat) : Int)
                unfold keyI
                rw [hd]
                show V.int (jj : Int) = .int (((idxOf m nm).getD 0 : Nat) : Int)
                rw [hj]
                rfl
            | _ => cases hk
end
end MM
/-! D0 -/
namespace MM
open PySem PySem.Spec PyProof.Rows L2
/-! ## names for what the rules compute -/
section
variable {T : Type}
abbrev FD (T : Type) := Env → M T D
abbrev FL (T : Type) := Env → M T (List D)
abbrev FK (T : Type) := Env → M T (List (Str × D))
abbrev FB (T : Type) := Env → M T Bool
abbrev FS (T : Type) := Env → M T Out
abbrev FV (T : Type) := Env → M T SV
abbrev FO (T : Type) := Env → M T (Option Int)
@[simp] abbrev xV (i : Nat) : FD T := fun ρ => lft (vV i ρ)
@[simp] abbrev xB (i : Nat) : FD T := fun ρ => lft (vB i ρ)
@[simp] abbrev cI (i : Int) : FD T := fun _ => ret (.int i)
@[simp] abbrev cS (s : Str) : FD T := fun _ => ret (.str s)
@[simp] abbrev cB (b : Bool) : FD T := fun _ => ret (.bl b)
@[simp] abbrev cN : FD T := fun _ => ret .non
@[simp] abbrev aN : FL T := fun _ => ret []
@[simp] abbrev aC (f : FD T) (r : FL T) : FL T := fun ρ => bnd (f ρ) fun x => bnd (r ρ) fun xs => ret (x :: xs)
@[simp] abbrev aS (f : FD T) (r : FL T) : FL T := fun ρ => bnd (f ρ) fun x => bnd (lft (seqOf x)) fun ys => bnd (r ρ) fun xs => ret (ys ++ xs)
@[simp] abbrev eTup (f : FL T) : FD T := fun ρ => bnd (f ρ) fun xs => bnd (lft (sml xs)) fun xs => ret (.tup xs)
@[simp] abbrev lLst (f : FL T) : FL T := fun ρ => bnd (f ρ) fun xs => lft (sml xs)
@[simp] abbrev oL (f : FL T) : FD T := fun ρ => bnd (f ρ) fun ds => ret (.lst ds)
@[simp] abbrev oK (f : FK T) : FD T := fun ρ => bnd (f ρ) fun ds => ret (.dct ds)
@[simp] abbrev kNew : FK T := fun _ => ret []
@[simp] abbrev o1 (g : D → Option D) (f : FD T) : FD T := fun ρ => bnd (f ρ) fun x => lft (g x)
@[simp] abbrev l1 (g : D → Option (List D)) (f : FD T) : FL T := fun ρ => bnd (f ρ) fun x => lft (g x)
@[simp] abbrev k1 (g : D → Option (List (Str × D))) (f : FD T) : FK T := fun ρ => bnd (f ρ) fun x => lft (g x)
@[simp] abbrev tt1 (g : D → Option (List D)) (f : FD T) : FD T := fun ρ => bnd (f ρ) fun x => bnd (lft (g x)) fun ds => ret (.tup ds)
@[simp] abbrev o2 (g : D → D → Option D) (f h : FD T) : FD T := fun ρ => bnd (f ρ) fun x => bnd (h ρ) fun y => lft (g x y)
@[simp] abbrev l2 (g : D → D → Option (List D)) (f h : FD T) : FL T := fun ρ => bnd (f ρ) fun x => bnd (h ρ) fun y => lft (g x y)
@[simp] abbrev tst (f : FD T) : FB T := fun ρ => bnd (f ρ) fun x => lft (asB x)
@[simp] abbrev isNo (f : FD T) : FB T := fun ρ => bnd (f ρ) fun x => ret (isNon x)
@[simp] abbrev notNo (f : FD T) : FB T := fun ρ => bnd (f ρ) fun x => ret (!isNon x)
@[simp] abbrev eIsNo (f : FD T) : FD T := fun ρ => bnd (f ρ) fun x => ret (.bl (isNon x))
@[simp] abbrev eNotNo (f : FD T) : FD T := fun ρ => bnd (f ρ) fun x => ret (.bl (!isNon x))
@[simp] abbrev tNot (f : FB T) : FB T := fun ρ => bnd (f ρ) fun b => ret (!b)
def tOr (f g : FB T) : FB T := fun ρ => bnd (f ρ) fun x => match x with | true => ret true | false => g ρ
def tAnd (f g : FB T) : FB T := fun ρ => bnd (f ρ) fun x => match x with | true => g ρ | false => ret false
def eOr (f g : FD T) : FD T := fun ρ => bnd (f ρ) fun x => bnd (lft (asB x)) fun x => match x with | true => ret (.bl true) | false => g ρ
def eAnd (f g : FD T) : FD T := fun ρ => bnd (f ρ) fun x => bnd (lft (asB x)) fun x => match x with | true => g ρ | false => ret (.bl false)
@[simp] abbrev eNot (f : FD T) : FD T := fun ρ => bnd (f ρ) fun x => bnd (lft (asB x)) fun x => ret (.bl (!x))
def eIf (c : FB T) (f g : FD T) : FD T := fun ρ => bnd (c ρ) fun x => match x with | true => f ρ | false => g ρ
@[simp] abbrev eNeg (f : FD T) : FD T := fun ρ => bnd (f ρ) fun x => lft (match x with | .int i => some (.int (-i)) | _ => none)
@[simp] abbrev cP (n : Nat) (G : List D → Option D) (f : FL T) : FD T := fun ρ => bnd (f ρ) fun ds => callP n G ds
@[simp] abbrev cP0 (G : List D → Option D) : FD T := fun _ => callP 0 G []
@[simp] abbrev cT (n : Nat) (G : List D → M T D) (f : FL T) : FD T := fun ρ => bnd (f ρ) fun ds => callS n G ds
@[simp] abbrev pN : FO T := fun _ => ret none
@[simp] abbrev pS (f : FD T) : FO T := fun ρ => bnd (f ρ) fun x => bnd (lft (asI x)) fun i => ret (some i)
@[simp] abbrev sliL (f : FD T) (l h : FO T) : FL T := fun ρ => bnd (f ρ) fun x => bnd (l ρ) fun l => bnd (h ρ) fun h => bnd (lft (lstD x)) fun ds => ret (cutD ds l h)
@[simp] abbrev sliT (f : FD T) (l h : FO T) : FD T := fun ρ => bnd (f ρ) fun x => bnd (l ρ) fun l => bnd (h ρ) fun h => bnd (lft (tupD x)) fun ds => ret (.tup (cutD ds l h))
@[simp] abbrev stpT (f : FD T) (l : FO T) (st : Int) : FD T := fun ρ => bnd (f ρ) fun x => bnd (l ρ) fun l => bnd (lft (tupD x)) fun ds => bnd (lft (sml (stepOf ds l st))) fun ys => ret (.tup ys)
def eChain (g g' : D → D → Option D) (f h m : FD T) : FB T := fun ρ => bnd (f ρ) fun x => bnd (h ρ) fun y => bnd (lft (g x y)) fun z => bnd (lft (asB z)) fun b => match b with
      | false => ret false
      | true => bnd (m ρ) fun z => bnd (lft (g' y z)) fun w => lft (asB w)
@[simp] abbrev lVals (f : FK T) : FL T := fun ρ => bnd (f ρ) fun ks => ret (valsD ks)
@[simp] abbrev sVals (f : FK T) : FL T := fun ρ => bnd (f ρ) fun ks => lft (sortD (valsD ks))
@[simp] abbrev sItms (f : FK T) : FL T := fun ρ => bnd (f ρ) fun ks => lft (sortD (itmsD ks))
@[simp] abbrev sSeq (f : FD T) : FL T := fun ρ => bnd (f ρ) fun x => bnd (lft (seqOf x)) fun ds => lft (sortD ds)
@[simp] abbrev eMin (f : FL T) : FD T := fun ρ => bnd (f ρ) fun xs => lft (match xs with
      | [.int i, .int j] => some (.int (if j < i then j else i))
      | _ => none)
@[simp] abbrev bd1 (i : Nat) : D → Env → Option Env := fun d ρ => some (ρ.set i (some (.val d)))
@[simp] abbrev bd2 (i j : Nat) : D → Env → Option Env := fun d ρ => match seqOf d with
      | some [a, b] => some ((ρ.set i (some (.val a))).set j (some (.val b)))
      | _ => none
@[simp] abbrev bd3 (i j m : Nat) : D → Env → Option Env := fun d ρ => match seqOf d with
      | some [a, b, c] => some (((ρ.set i (some (.val a))).set j (some (.val b))).set m (some (.val c)))
      | _ => none
@[simp] abbrev iSeq (f : FD T) : FL T := fun ρ => bnd (f ρ) fun d => lft (seqOf d)
@[simp] abbrev iZip (f : FL T) : FL T := fun ρ => bnd (f ρ) fun xs => lft (zipD xs)
@[simp] abbrev iEnu (f : FD T) : FL T := fun ρ => bnd (f ρ) fun x => bnd (lft (tupD x)) fun xs => ret (enumL 0 xs)
@[simp] abbrev iRng (f : FD T) : FL T := fun ρ => bnd (f ρ) fun x => bnd (lft (asI x)) fun n => lft (if 0 ≤ n ∧ n ≤ 100000 then some (rangeL 0 1 n.toNat) else none)
@[simp] abbrev iRng3 (f : FL T) : FL T := fun ρ => bnd (f ρ) fun xs => lft (match xs with
      | [.int i, .int j, .int st] => if i = 0 ∧ 0 ≤ j ∧ j ≤ 1000 ∧ st = 2 then some (rangeL 0 2 ((j.toNat + 1) / 2)) else none
      | _ => none)
@[simp] abbrev iStr (f : FD T) : FL T := fun ρ => bnd (f ρ) fun x => lft (signsD x)
@[simp] abbrev ifT : FB T := fun _ => ret true
@[simp] abbrev lcF (fi : FL T) (bd : D → Env → Option Env) (ft : FB T) (fe : FD T) (own : List Nat) : FL T := fun ρ => bnd (fi ρ) fun xs => bnd (lft (sml xs)) fun xs => compF bd ft fe xs (wipeE ρ own)
@[simp] abbrev dcmF (fi : FL T) (bd : D → Env → Option Env) (fk fv : FD T) (own : List Nat) : FK T := fun ρ => bnd (fi ρ) fun xs => bnd (lft (sml xs)) fun xs => dcF bd fk fv (wipeE ρ own) xs []
@[simp] abbrev sNil : FS T := fun ρ => ret (.nx ρ)
@[simp] abbrev sSet (i : Nat) (f : FD T) : FS T := fun ρ => bnd (f ρ) fun d => ret (.nx (ρ.set i (some (.val d))))
@[simp] abbrev sSetL (i : Nat) (f : FL T) : FS T := fun ρ => bnd (f ρ) fun d => ret (.nx (ρ.set i (some (.ol d))))
@[simp] abbrev sSetK (i : Nat) (f : FK T) : FS T := fun ρ => bnd (f ρ) fun d => ret (.nx (ρ.set i (some (.od d))))
@[simp] abbrev sLc (i : Nat) (f : FL T) : FS T := fun ρ => bnd (f ρ) fun ds => ret (.nx (ρ.set i (some (.val (.lst ds)))))
@[simp] abbrev sEx (f : FD T) : FS T := fun ρ => bnd (f ρ) fun _ => ret (.nx ρ)
@[simp] abbrev sRet (f : FD T) : FS T := fun ρ => bnd (f ρ) fun d => ret (.rt d)
@[simp] abbrev sRetO (i : Nat) : FS T := fun ρ => bnd (lft (vB i ρ)) fun d => ret (.rt d)
def sIf (c : FB T) (f g : FS T) : FS T := fun ρ => bnd (c ρ) fun x => match x with | true => f ρ | false => g ρ
@[simp] abbrev sNo : FS T := fun _ _ => none
@[simp] abbrev sApp (i : Nat) (f : FD T) : FS T := fun ρ => bnd (f ρ) fun d => lft (appE i d ρ)
@[simp] abbrev sPut (i : Nat) (fk fv : FD T) : FS T := fun ρ => bnd (fv ρ) fun d => bnd (fk ρ) fun z => lft (putE i z d ρ)
@[simp] abbrev sPop (i j : Nat) (f : FD T) : FS T := fun ρ => bnd (f ρ) fun z => lft (apopE i j z ρ)
@[simp] abbrev sUnp (bd : D → Env → Option Env) (f : FD T) : FS T := fun ρ => bnd (f ρ) fun d => bnd (lft (bd d ρ)) fun ρ' => ret (.nx ρ')
@[simp] abbrev vD (f : FD T) : FV T := fun ρ => bnd (f ρ) fun d => ret (.val d)
@[simp] abbrev vL (f : FL T) : FV T := fun ρ => bnd (f ρ) fun d => ret (.ol d)
@[simp] abbrev vK (f : FK T) : FV T := fun ρ => bnd (f ρ) fun d => ret (.od d)
@[simp] abbrev sPar2 (i j : Nat) (f g : FV T) : FS T := fun ρ => bnd (f ρ) fun s1 => bnd (g ρ) fun s2 => ret (.nx ((ρ.set i (some s1)).set j (some s2)))
@[simp] abbrev sPar3 (i j m : Nat) (f g h : FV T) : FS T := fun ρ => bnd (f ρ) fun s1 => bnd (g ρ) fun s2 => bnd (h ρ) fun s3 => ret (.nx (((ρ.set i (some s1)).set j (some s2)).set m (some s3)))
@[simp] abbrev sFor (fi : FL T) (bd : D → Env → Option Env) (f : FS T) : FS T := fun ρ => bnd (fi ρ) fun xs => forF bd f xs ρ
@[simp] abbrev sWh (n : Nat) (c : FB T) (f : FS T) : FS T := fun ρ => whileF c f n ρ
end
theorem u1 {a b : Nat} (h : a + 64 < b) : a + 1 < b := by omega
/-! ### a slot's own list is frozen -/
def frzE (i : Nat) (ρ : Env) : Option Env := match ρ[i]? with
  | some (some (.ol ds)) => some (ρ.set i (some (.val (.lst ds))))
  | _ => none
theorem sb_frz {T : Type} {k : Kx} {C : Cell T} {X : Cx} {sts : List Stmt} {g : FS T} (i : Nat) (h : SB k C X sts g) : SB k C X sts (fun ρ => bnd (lft (frzE i ρ)) g) := pss_imp h fun N σ H ⟨E0, En, H0, ρ, t, o, t', R, ev, q⟩ => by
  obtain ⟨ρ', t1, e1, e2⟩ := bnd_some ev
  obtain ⟨e3, rfl⟩ := lft_some e1
  unfold frzE at e3
  split at e3
  · next ds e =>
    cases e3
    obtain ⟨x, h1, l, vs, rfl, a, b, c, r⟩ := slot_at R e
    have hi : i < ρ.length := (List.getElem?_eq_some_iff.mp e).1
    have hi' : i < σ.length := by rw [R.len]; exact hi
    have noO : ∀ j, ¬ Owns σ (ρ.set i none) j l := fun j z => by
      obtain ⟨z1, z2⟩ := z
      by_cases q : i = j
      · subst q
        rw [List.getElem?_set_self hi] at z2
        rcases z2 with ⟨_, z2⟩ | ⟨_, z2⟩ <;> cases z2
      · rw [List.getElem?_set_ne q] at z2
        exact q (R.own i j l ⟨h1, .inl ⟨ds, e⟩⟩ ⟨z1, z2⟩)
    have R1 : RS k C E0 En H0 H σ (ρ.set i none) t1 := ⟨R.go, R.sub, R.rep, R.mt, by rw [List.length_set]; exact R.len, fun j x s g1 g2 => by
        by_cases q : i = j
        · subst q
          rw [List.getElem?_set_self hi] at g2
          cases g2
          trivial
        · rw [List.getElem?_set_ne q] at g2
          exact R.slot j x s g1 g2, fun p q m ha hb => by
        have back : ∀ {j}, Owns σ (ρ.set i none) j m → Owns σ ρ j m := fun {j} ⟨o1, o2⟩ => by
          refine ⟨o1, ?_⟩
          by_cases q : i = j
          · subst q
            rw [List.getElem?_set_self hi] at o2
            rcases o2 with ⟨_, o2⟩ | ⟨_, o2⟩ <;> cases o2
          · rw [List.getElem?_set_ne q] at o2; exact o2
        exact R.own p q m (back ha) (back hb), R.tb⟩
    have R2 := R1.frz c b a noO
    have R3 : RS k C E0 En (upd H0 l (.lst vs)) H (σ.set i (some (.ref l))) ((ρ.set i none).set i (some (.val (.lst ds)))) t1 := R2.put (s := .val (.lst ds)) i (.lst upd_same (r.ex (ex_new b)))
    have es : σ.set i (some (V.ref l)) = σ := by
      apply List.ext_getElem?
      intro j
      by_cases q : i = j
      · subst q
        rw [List.getElem?_set_self hi', h1]
      · rw [List.getElem?_set_ne q]
    rw [List.set_set, es] at R3
    exact ⟨E0, En, _, _, t1, o, t', R3, e2, q.mono (ex_new b)⟩
  · cases e3
/-- the read constants of the text -/
theorem ed_gint {T : Type} {k : Kx} {C : Cell T} {X : Cx} {x : Str} {i : Int} {pos : Pos} (h : ∃ t, X.mg x = some (.int i t)) (hg : Gl X x := by rfl) (hd : (x == ("__debug__" : Str)) = false := by decide) : ED k C X (.Name x pos) (cI i) :=
  h.elim fun t e => ed_c (pe_glob (v := .int i) hg e ⟨t, rfl⟩ hd) fun _ => .int i
theorem ed_gstr {T : Type} {k : Kx} {C : Cell T} {X : Cx} {x : Str} {z : Str} {pos : Pos} (h : ∃ t, X.mg x = some (.str z t)) (hg : Gl X x := by rfl) (hd : (x == ("__debug__" : Str)) = false := by decide) : ED k C X (.Name x pos) (cS z) :=
  h.elim fun t e => ed_c (pe_glob (v := .str z) hg e ⟨t, rfl⟩ hd) fun _ => .str z
/-- not reached -/
theorem ed_never {T : Type} {k : Kx} {C : Cell T} {X : Cx} {e : Expr} : ED k C X e (fun _ _ => none) := ⟨fun pins s σ H Q I ⟨E0, En, H0, ρ, t, d, t', R, ev, q⟩ => by cases ev⟩
end MM
/-! D1 -/
namespace MM
open PySem PySem.Spec PyProof.Rows L2
def top (i : Nat) : Stmt := PySem.Challenge.pw_masksmoved_k29_whole_shifts_until_settle.main.body.getD i (.Pass ⟨0, 0, 0, 0⟩)
/-- the names of the text that are read -/
structure Bi (mg : Str → Option Value) : Prop where
  len : mg "len" = none
  all : mg "all" = none
  tuple : mg "tuple" = none
  list : mg "list" = none
  dict : mg "dict" = none
  sorted : mg "sorted" = none
  isinstance : mg "isinstance" = none
  str : mg "str" = none
  int : mg "int" = none
  bool : mg "bool" = none
  abs : mg "abs" = none
  min : mg "min" = none
  max : mg "max" = none
  set : mg "set" = none
  zip : mg "zip" = none
  range : mg "range" = none
  enumerate : mg "enumerate" = none
  LONGEST : ∃ t, mg "LONGEST" = some (.int 8 t)
  LETTERS : ∃ t, mg "LETTERS" = some (.str "abcdefghijklmnopqrstuvwxyz" t)
section
variable {T : Type} {k : Kx} {C : Cell T} {P : Program} {w : World} {K : PySem.W.Frag} {mg : Str → Option Value} {base : Heap} {lv n m : Nat} {x : Str}
theorem Df.pure {C : Cell Unit} {F : FS Unit} (h : Df P w K mg base k C lv x n (runD n m F)) : Df P w K mg base k C lv x n (pureG fun ds => (runD n m F ds ()).map (·.1)) :=
  h.imp (Nat.le_refl _) fun ds t r _ e => by
    cases t
    have e : lft ((runD n m F ds ()).map (·.1)) () = some r := e
    cases q : runD n m F ds () with
    | none => rw [q] at e; cases e
    | some p =>
      rw [q] at e
      cases e
      rfl
theorem df_none {C : Cell Unit} {st : Stmt} {ps : List Str} (Fd : Ds K mg x st ps) (hl : ps.length = n) : Df P w K mg base k C lv x n (pureG fun _ => none) := by
  obtain ⟨f, fd, a, b, c⟩ := Fd.ex
  have no : ∀ vs H Q E, spD k C n (pureG fun _ => none) vs H Q E → False := fun vs H Q E ⟨H0, ds, t, d, t', _, _, _, _, _, e, _⟩ => by cases e
  exact ⟨f, fd, ps, ⟨fun vs H Q E h => (no vs H Q E h).elim, fun A outer s H args us vs Q E _ _ _ _ h => (no vs H Q E h).elim⟩, b, a.kp, c⟩
/-! ### a def that gives a dict of its own making -/
def spK (k : Kx) (C : Cell T) (n : Nat) (G : List D → M T (List (Str × D))) : Sp := fun vs H Q _ => ∃ H0 ds t d t', Ex H0 H ∧ ((∀ a, C.mu a → H a ≠ none ∧ H0 a = none) ∧ ∀ a ps, H a = some (.tbl ps) → C.mu a) ∧ C.rep t H ∧ RpA k H0 ds vs ∧ ds.length = n ∧ G ds t = some (d, t') ∧
  ∀ H0' H' p kvs, Go C H0 H H0' H' → Ex H0' H' → C.rep t' H' → H p = none → H0' p = none → H' p = some (.dK kvs) → RpK k H0' d kvs → Q (.ref p) H'
structure DfK (P : Program) (w : World) (K : PySem.W.Frag) (mg : Str → Option Value) (base : Heap) (k : Kx) (C : Cell Unit) (lv : Nat) (x : Str) (n : Nat) (G : List D → Option (List (Str × D))) : Prop where
  ex : ∃ f fd ps, FnOk P w K mg base CX0 lv f fd ps (spK k C n fun ds => lft (G ds)) ∧ mg x = some (.ref f) ∧ PySem.W.keepIn K (.ref f) = true ∧ Binds K fd ps []
theorem dfk_of {C : Cell Unit} {st : Stmt} {N ps : List Str} {e : Expr} {pos : Pos} {F : FK Unit} (Fd : Ds K mg x st ps) (S : FnScope N ps (defScope st)) (hl : ps.length ≤ N.length) (hbd : defBody st = [.Return (some e) pos])
    (hb : ∀ (f : Addr) (cdv : Value) (A : Around) (outer : List PySem.Env) (s : Shared) (H : Hp) (E : XK), Room lv (A.deeper (envOfC x (defScope st) s.heap.objs.size f cdv)) → EK k C (cx0 P w K mg base N x st f cdv A outer s H E) e F) :
    DfK P w K mg base k C (lv + 1) x ps.length (fun ds => if ds.length = ps.length then (F (ds.map (fun d => some (.val d)) ++ List.replicate (N.length - ps.length) none) ()).map (·.1) else none) := by
  obtain ⟨f, fd, a, b, c⟩ := Fd.ex
  refine ⟨f, fd, ps, a.ok S (fun vs H Q E h => ?_) (fun cdv A outer s H vs Q E hr h => ?_), b, a.kp, c⟩
  · obtain ⟨H0, ds, t, d, t', _, _, _, ra, hn, _⟩ := h
    rw [← ra.length, hn]
  · obtain ⟨H0, ds, t, d, t', s0, m, r, ra, hn, e1, q⟩ := h
    rw [hbd]
    refine ⟨_, PSs.nox (pss_one (ps_ret (hb f cdv A outer s H E hr))), ?_⟩
    obtain ⟨e2, rfl⟩ := lft_some (show lft (if ds.length = ps.length then (F (ds.map (fun d => some (.val d)) ++ List.replicate (N.length - ps.length) none) ()).map (·.1) else none) t = some (d, t') from e1)
    rw [if_pos hn] at e2
    cases t'
    have R0 := rs_start (N := N) s0 m r ra (by rw [hn]; exact hl)
    rw [hn] at R0
    cases q2 : F (ds.map (fun d => some (.val d)) ++ List.replicate (N.length - ps.length) none) () with
    | none => rw [q2] at e2; cases e2
    | some p =>
      rw [q2] at e2
      cases e2
      exact ⟨H0, H, H0, _, (), p.1, p.2, R0, q2, fun H0' H' p' kvs R' g np n0 hp r' => q H0' H' p' kvs g R'.sub R'.rep np n0 hp r'⟩
def kCall {T : Type} (n : Nat) (G : List D → Option (List (Str × D))) (f : FL T) : FK T := fun ρ => bnd (f ρ) fun ds => lft (if ds.length = n then G ds else none)
theorem ek_call {C' : Cell Unit} {X : Cx} {e : Expr} {es : List Expr} {pos p : Pos} {G : List D → Option (List (Str × D))} {fa : FL T} (le : CellLe C' C) (F : DfK X.prog X.w X.K X.mg X.base k C' lv x n G) (hr : Room lv X.A) (ha : EA k C X (e :: es) fa) (hg : Gl X x := by rfl) (hdb : (x == ("__debug__" : Str)) = false := by decide)
    (he : starEach (e :: es) X.env = (false, eval e X.env) :: starEach es X.env := by rfl) (hpl : (backTo pos (starEach es X.env)).any (·.1) = false := by rfl) :
    EK k C X (.Call (.Name x p) (e :: es) [] pos) (kCall n G fa) := by
  obtain ⟨f, fd, ps, a, b, c, d⟩ := F.ex
  refine pe_imp (pe_call a hr hg b c d .nil pass0 ha hdb he hpl) fun σ H Q ⟨E0, En, H0, ρ, t, r, t', R, ev, q⟩ => ?_
  obtain ⟨ds, t1, e1, e2⟩ := bnd_some ev
  obtain ⟨e3, rfl⟩ := lft_some e2
  split at e3
  · next hn =>
    refine ⟨E0, En, H0, ρ, t, ds, _, R, e1, fun H1 H1' vs R1 g1 r1 => ⟨H1, ds, (), r, (), R1.sub, ⟨fun a m => ⟨(R1.nomut (le.mu a m)).2, (R1.nomut (le.mu a m)).1⟩, fun a ps e => (le.tb a (R1.tb a ps e)).elim id fun q => absurd e (q _ _ ps R1.rep)⟩, le.rep _ _ R1.rep, by rw [List.append_nil]; exact r1, hn, by show lft (G ds) () = some (r, ()); rw [e3]; rfl, fun H2 H2' p kvs g2 s2 rep2 np n0 hp rv => ?_⟩⟩
    have g3 := le.go g2
    exact q _ _ _ _ (R1.step g3 s2 (le.back _ _ _ R1.rep rep2 g2.act)) (g1.trans g3) (g1.trk p np) n0 hp rv
  · cases e3
end
section
variable {k : Kx} {C : Cell Unit} {P : Program} {w : World} {K : PySem.W.Frag} {mg : Str → Option Value} {base : Heap}
theorem le : CellLe C C := CellLe.refl
/-! ### tupled -/
abbrev N_tupled : List Str := ["value", "part"]
def F_tupled (G : List D → Option D) : FS Unit := sRet (eIf (tst (o1 (isiD ["list", "tuple"]) (xB 0))) (tt1 lstD (oL (lcF (iSeq (xV 0)) (bd1 1) (ifT) (cP 1 G (aC (xV 1) (aN))) [1]))) (xV 0))
theorem d_tupled (B : Bi mg) (Dd : Ds K mg "tupled" (top 6) ["value"]) {lv : Nat} {G : List D → Option D} (c_tupled : Df P w K mg base k C lv "tupled" 1 (pureG G)) : Df P w K mg base k C (lv + 1) "tupled" 1 (pureG fun ds => (runD
    1 1 (F_tupled G) ds ()).map (·.1)) :=
  (df_of (N := N_tupled) (lv := lv) (F := F_tupled G) Dd (C8.fnScope_by (by decide)) (by decide) fun f cdv A outer s H E hr => have nd : (N_tupled).Nodup := by decide
    sb_one (ss_ret (ed_if (et_val (ed_isi2 "list" "tuple" B.isinstance B.list B.tuple (eb_var 0))) (ed_tt call_tupF c_tuple B.tuple (by rfl) (eb_of (ed_ofL (el_lc [("part", 1)] rfl nd (wi_seq (ed_var 0)) (blkOk_by (by rfl)) (fun _ _ _
    _ _ => gt_name 1 nd) (fun _ _ _ _ _ => pts_t0) (fun _ _ _ _ _ => ed_callP le c_tupled hr (ea_cons (ed_var 1) (ea_nil))))))) (ed_var 0)))).pure

/-! ### tupled, at each depth; seats_of -/
def G_tupled : Nat → List D → Option D
  | 0 => fun _ => none
  | n + 1 => fun ds => (runD 1 1 (F_tupled (G_tupled n)) ds ()).map (·.1)
theorem c_tupled_at (B : Bi mg) (Dd : Ds K mg "tupled" (top 6) ["value"]) : ∀ n, Df P w K mg base k C (n + 1) "tupled" 1 (pureG (G_tupled n))
  | 0 => df_none Dd rfl
  | n + 1 => d_tupled B Dd (c_tupled_at B Dd n)
def FK_seats_of : FK Unit := k1 tpD (cP 1 (G_tupled 8) (aC (xV 0) aN))
def GK_seats_of (ds : List D) : Option (List (Str × D)) := if ds.length = 1 then (FK_seats_of (ds.map (fun d => some (.val d)) ++ List.replicate 0 none) ()).map (·.1) else none
theorem d_seats_of (B : Bi mg) (Dd : Ds K mg "seats_of" (top 18) ["seating"]) (c_tupled : Df P w K mg base k C 9 "tupled" 1 (pureG (G_tupled 8))) : DfK P w K mg base k C (9 + 1) "seats_of" 1 GK_seats_of :=
  dfk_of (N := ["seating"]) (lv := 9) (F := FK_seats_of) Dd (C8.fnScope_by (by decide)) (by decide) (by rfl) fun f cdv A outer s H E hr => ek_t1 (call_dictT rfl) c_dictT B.dict (by rfl) (eb_of (ed_callP le c_tupled (hr.mono (by decide)) (ea_cons (ed_var 0) ea_nil)))
/-! ### is_name -/
abbrev N_is_name : List Str := ["value", "letter"]
def F_is_name : FS Unit := seqS (sIf (tOr (tNot (tst (o1 (isiD ["str"]) (xB 0)))) (tNot (eChain (iB fun i j => decide (i ≤ j)) (iB fun i j => decide (i ≤ j)) (cI 1) (o1 lenD (xB 0)) (cI 8)))) (sRet (cB false)) (sNil)) (sRet (o1
    allD (oL (lcF (iStr (xV 0)) (bd1 1) (ifT) (o2 inS (xB 1) (cS "abcdefghijklmnopqrstuvwxyz")) [1]))))
def G_is_name (ds : List D) : Option D := (runD 1 1 F_is_name ds ()).map (·.1)
theorem d_is_name (B : Bi mg) (Dd : Ds K mg "is_name" (top 5) ["value"]) (O : OqC K k.oc) : Df P w K mg base k C (0 + 1) "is_name" 1 (pureG G_is_name) :=
  (df_of (N := N_is_name) (lv := 0) (F := F_is_name) Dd (C8.fnScope_by (by decide)) (by decide) fun f cdv A outer s H E hr => have nd : (N_is_name).Nodup := by decide
    sb_cons (ss_if (et_w (ew_or (et_not (et_val (ed_isi O "str" B.isinstance B.str (eb_var 0)))) (ew_one_or (et_not (et_chain op_le op_le ok_B ok_B (eb_of (ed_int)) (eb_of (ed_b1 call_len c_len B.len (by rfl) (eb_var 0))) (eb_of
    (ed_gint B.LONGEST))))))) (sb_one (ss_ret (ed_bl))) (sb_nil)) (sb_one (ss_ret (ed_b1 (cr_all rfl) c_all B.all (by rfl) (eb_of (ed_ofL (el_lc [("letter", 1)] rfl nd (wi_str (ed_var 0)) (blkOk_by (by rfl)) (fun _ _ _ _ _ =>
    gt_name 1 nd) (fun _ _ _ _ _ => pts_t0) (fun _ _ _ _ _ => ed_cmp op_in_sign ok_inS (eb_var 1) (eb_of (ed_gstr B.LETTERS)))))))))).pure

/-! ### masks_table -/
abbrev N_masks_table : List Str := ["book"]
def F_masks_table : FS Unit := sRet (oK (k1 tpD (cP 1 (G_tupled 8) (aC (o2 idxL (xB 0) (cI 1)) (aN)))))
def G_masks_table (ds : List D) : Option D := (runD 1 0 F_masks_table ds ()).map (·.1)
theorem d_masks_table (B : Bi mg) (Dd : Ds K mg "masks_table" (top 8) ["book"]) (c_tupled : Df P w K mg base k C 9 "tupled" 1 (pureG (G_tupled 8))) : Df P w K mg base k C (9 + 1) "masks_table" 1 (pureG G_masks_table) :=
  (df_of (N := N_masks_table) (lv := 9) (F := F_masks_table) Dd (C8.fnScope_by (by decide)) (by decide) fun f cdv A outer s H E hr => have nd : (N_masks_table).Nodup := by decide
    sb_one (ss_ret (ed_ofK (ek_t1 (call_dictT rfl) c_dictT B.dict (by rfl) (eb_of (ed_callP le c_tupled (hr.mono (by decide)) (ea_cons (ed_ix ix_lt ok_ix (eb_var 0) (eb_of (ed_int))) (ea_nil)))))))).pure

/-! ### may_table -/
abbrev N_may_table : List Str := ["book", "ready", "table", "task", "kind"]
def F_may_table : FS Unit := seqS (sSet 2 (cP 1 G_masks_table (aC (xV 0) (aN)))) (sRet (oK (dcmF (iSeq (xV 1)) (bd2 3 4) (xV 3) (o2 idxK (xB 2) (xB 4)) [3, 4])))
def G_may_table (ds : List D) : Option D := (runD 2 3 F_may_table ds ()).map (·.1)
theorem d_may_table (B : Bi mg) (Dd : Ds K mg "may_table" (top 10) ["book", "ready"]) (c_masks_table : Df P w K mg base k C 10 "masks_table" 1 (pureG G_masks_table)) : Df P w K mg base k C (10 + 1) "may_table" 2 (pureG
    G_may_table) :=
  (df_of (N := N_may_table) (lv := 10) (F := F_may_table) Dd (C8.fnScope_by (by decide)) (by decide) fun f cdv A outer s H E hr => have nd : (N_may_table).Nodup := by decide
    sb_cons (ss_set 2 nd (ed_callP le c_masks_table (hr.mono (by decide)) (ea_cons (ed_var 0) (ea_nil)))) (sb_one (ss_ret (ed_ofK (ek_dc [("task", 3), ("kind", 4)] rfl nd (wi_seq (ed_var 1)) (blkOk_by (by rfl)) (fun _ _ _ _ _ =>
    gt_two 3 4 rfl nd) (fun _ _ _ _ _ => ed_var 3) (fun _ _ _ _ _ => ed_dget (u1 hr.units) (eb_var 2) (eb_var 4))))))).pure

/-! ### tasks_of -/
abbrev N_tasks_of : List Str := ["ready", "task", "kind"]
def F_tasks_of : FS Unit := sRet (oL (lcF (iSeq (xV 0)) (bd2 1 2) (ifT) (xV 1) [1, 2]))
def G_tasks_of (ds : List D) : Option D := (runD 1 2 F_tasks_of ds ()).map (·.1)
theorem d_tasks_of (B : Bi mg) (Dd : Ds K mg "tasks_of" (top 12) ["ready"]) : Df P w K mg base k C (0 + 1) "tasks_of" 1 (pureG G_tasks_of) :=
  (df_of (N := N_tasks_of) (lv := 0) (F := F_tasks_of) Dd (C8.fnScope_by (by decide)) (by decide) fun f cdv A outer s H E hr => have nd : (N_tasks_of).Nodup := by decide
    sb_one (ss_ret (ed_ofL (el_lc [("task", 1), ("kind", 2)] rfl nd (wi_seq (ed_var 0)) (blkOk_by (by rfl)) (fun _ _ _ _ _ => gt_two 1 2 rfl nd) (fun _ _ _ _ _ => pts_t0) (fun _ _ _ _ _ => ed_var 1))))).pure

/-! ### check_task -/
abbrev N_check_task : List Str := ["ready", "task"]
def F_check_task : FS Unit := sIf (tst (o2 (inD true) (xB 1) (cP 1 G_tasks_of (aC (xV 0) (aN))))) (sNo) (sNil)
def G_check_task (ds : List D) : Option D := (runD 2 0 F_check_task ds ()).map (·.1)
theorem d_check_task (B : Bi mg) (Dd : Ds K mg "check_task" (top 13) ["ready", "task"]) (c_tasks_of : Df P w K mg base k C 1 "tasks_of" 1 (pureG G_tasks_of)) : Df P w K mg base k C (1 + 1) "check_task" 2 (pureG G_check_task) :=
  (df_of (N := N_check_task) (lv := 1) (F := F_check_task) Dd (C8.fnScope_by (by decide)) (by decide) fun f cdv A outer s H E hr => have nd : (N_check_task).Nodup := by decide
    sb_one (ss_if (et_cmp op_notIn_seq ok_in (eb_var 1) (eb_of (ed_callP le c_tasks_of (hr.mono (by decide)) (ea_cons (ed_var 0) (ea_nil))))) (sb_one (ss_never)) (sb_nil))).pure

/-! ### seat_more -/
abbrev N_seat_more : List Str := ["table", "seats", "task", "ways", "seen", "cpu", "mover", "way", "longer", "found", "own", "mate"]
def F_seat_more : FS Unit := seqS (sPar2 3 4 (vL (lLst (aC (eTup (aC (xV 2) (aC (eTup (aN)) (aN)))) (aN)))) (vL (lLst (aN)))) (seqS (sWh 1000 (tst (o2 (iB fun i j => decide (j < i)) (o1 lenD (xB 3)) (cI 0))) (seqS (sUnp (bd2 6 7)
    (o2 idxL (xB 3) (cI 0))) (seqS (sSetL 3 (sliL (xB 3) (pS (cI 1)) (pN))) (sFor (iSeq (oL (sSeq (o2 idxK (xB 0) (xB 6))))) (bd1 5) (sIf (tst (o2 (inD true) (xB 5) (xB 4))) (seqS (sApp 4 (xV 5)) (seqS (sSet 8 (eTup (aS (xB 7) (aC
    (eTup (aC (xV 5) (aC (xV 6) (aN)))) (aN))))) (seqS (sIf (tst (o2 (inK true) (xB 5) (xB 1))) (seqS (sSetK 9 (k1 dctD (xB 1))) (seqS (sFor (iSeq (xV 8)) (bd2 10 11) (sPut 9 (xV 10) (xV 11))) (sRetO 9))) (sNil)) (sApp 3 (eTup (aC
    (o2 idxK (xB 1) (xB 5)) (aC (xV 8) (aN)))))))) (sNil)))))) (sRet (cN)))
def G_seat_more (ds : List D) : Option D := (runD 3 9 F_seat_more ds ()).map (·.1)
theorem d_seat_more (B : Bi mg) (Dd : Ds K mg "seat_more" (top 14) ["table", "seats", "task"]) : Df P w K mg base k C (0 + 1) "seat_more" 3 (pureG G_seat_more) :=
  (df_of (N := N_seat_more) (lv := 0) (F := F_seat_more) Dd (C8.fnScope_by (by decide)) (by decide) fun f cdv A outer s H E hr => have nd : (N_seat_more).Nodup := by decide
    sb_cons (ss_par2 3 4 rfl nd (ev_L (el_lst (ea_cons (ed_tup (ea_cons (ed_var 2) (ea_cons (ed_tup (ea_nil)) (ea_nil)))) (ea_nil)))) (ev_L (el_lst (ea_nil)))) (sb_cons (ss_while 1000 PassesOwn.never (et_cmp op_gt ok_B (eb_of (ed_b1
    call_len c_len B.len (by rfl) (eb_var 3))) (eb_of (ed_int))) (sb_cons (ss_unp (ed_ix ix_lt ok_ix (eb_var 3) (eb_of (ed_int))) (gt_two 6 7 rfl nd)) (sb_cons (ss_setL 3 nd (el_slice (eb_var 3) (eo_some (ed_int)) (eo_none)))
    (sb_one (ss_for PassesOwn.never rfl (wi_seq (ed_ofL (el_sorted hr.units B.sorted (eb_of (ed_dget (u1 hr.units) (eb_var 0) (eb_var 6)))))) (gt_name 5 nd) (sb_one (ss_if (et_cmp op_notIn_seq ok_in (eb_var 5) (eb_var 4)) (sb_cons
    (ss_app 4 (ed_var 5)) (sb_cons (ss_set 8 nd (ed_tup (ea_star (eb_var 7) (ea_cons (ed_tup (ea_cons (ed_var 5) (ea_cons (ed_var 6) (ea_nil)))) (ea_nil))))) (sb_cons (ss_if (et_ninK (u1 hr.units) (eb_var 5) (eb_var 1)) (sb_cons
    (ss_setK 9 nd (ek_t1 call_dictD c_dictD B.dict (by rfl) (eb_var 1))) (sb_cons (ss_for PassesOwn.never rfl (wi_seq (ed_var 8)) (gt_two 10 11 rfl nd) (sb_one (ss_dput 9 (u1 hr.units) (ed_var 10) (ed_var 11)))) (sb_one (ss_retO
    9)))) (sb_nil)) (sb_one (ss_app 3 (ed_tup (ea_cons (ed_dget (u1 hr.units) (eb_var 1) (eb_var 5)) (ea_cons (ed_var 8) (ea_nil))))))))) (sb_nil)))))))) (sb_one (ss_ret (ed_non))))).pure

/-! ### seat_all -/
abbrev N_seat_all : List Str := ["book", "ready", "task", "table", "seats", "more"]
def F_seat_all : FS Unit := seqS (sPar2 3 4 (vD (cP 2 G_may_table (aC (xV 0) (aC (xV 1) (aN))))) (vD (oK (kNew)))) (seqS (sFor (iSeq (cP 1 G_tasks_of (aC (xV 1) (aN)))) (bd1 2) (seqS (sSet 5 (cP 3 G_seat_more (aC (xV 3) (aC (xV 4)
    (aC (xV 2) (aN)))))) (sIf (notNo (xB 5)) (sSet 4 (xV 5)) (sNil)))) (sRet (xV 4)))
def G_seat_all (ds : List D) : Option D := (runD 2 4 F_seat_all ds ()).map (·.1)
theorem d_seat_all (B : Bi mg) (Dd : Ds K mg "seat_all" (top 15) ["book", "ready"]) (c_may_table : Df P w K mg base k C 11 "may_table" 2 (pureG G_may_table)) (c_tasks_of : Df P w K mg base k C 1 "tasks_of" 1 (pureG G_tasks_of))
    (c_seat_more : Df P w K mg base k C 1 "seat_more" 3 (pureG G_seat_more)) : Df P w K mg base k C (11 + 1) "seat_all" 2 (pureG G_seat_all) :=
  (df_of (N := N_seat_all) (lv := 11) (F := F_seat_all) Dd (C8.fnScope_by (by decide)) (by decide) fun f cdv A outer s H E hr => have nd : (N_seat_all).Nodup := by decide
    sb_cons (ss_par2 3 4 rfl nd (ev_val (ed_callP le c_may_table (hr.mono (by decide)) (ea_cons (ed_var 0) (ea_cons (ed_var 1) (ea_nil))))) (ev_val (ed_ofK (ek_new)))) (sb_cons (ss_for PassesOwn.never rfl (wi_seq (ed_callP le
    c_tasks_of (hr.mono (by decide)) (ea_cons (ed_var 1) (ea_nil)))) (gt_name 2 nd) (sb_cons (ss_set 5 nd (ed_callP le c_seat_more (hr.mono (by decide)) (ea_cons (ed_var 3) (ea_cons (ed_var 4) (ea_cons (ed_var 2) (ea_nil))))))
    (sb_one (ss_if (et_notN (eb_var 5)) (sb_one (ss_set 4 nd (ed_var 5))) (sb_nil))))) (sb_one (ss_ret (ed_var 4))))).pure

/-! ### ideal -/
abbrev N_ideal : List Str := ["book", "ready"]
def F_ideal : FS Unit := sRet (tt1 lstD (oL (sVals (k1 dctD (cP 2 G_seat_all (aC (xV 0) (aC (xV 1) (aN))))))))
def G_ideal (ds : List D) : Option D := (runD 2 0 F_ideal ds ()).map (·.1)
theorem d_ideal (B : Bi mg) (Dd : Ds K mg "ideal" (top 16) ["book", "ready"]) (c_seat_all : Df P w K mg base k C 12 "seat_all" 2 (pureG G_seat_all)) : Df P w K mg base k C (12 + 1) "ideal" 2 (pureG G_ideal) :=
  (df_of (N := N_ideal) (lv := 12) (F := F_ideal) Dd (C8.fnScope_by (by decide)) (by decide) fun f cdv A outer s H E hr => have nd : (N_ideal).Nodup := by decide
    sb_one (ss_ret (ed_tt call_tupF c_tuple B.tuple (by rfl) (eb_of (ed_ofL (el_sortVals rfl hr.units B.sorted (vw_vals (eb_of (ed_callP le c_seat_all (hr.mono (by decide)) (ea_cons (ed_var 0) (ea_cons (ed_var 1) (ea_nil)))))))))))).pure

/-! ### does_wait -/
abbrev N_does_wait : List Str := ["seats", "task"]
def F_does_wait : FS Unit := sRet (o2 (inD true) (xB 1) (oL (lVals (k1 dctD (xB 0)))))
def G_does_wait (ds : List D) : Option D := (runD 2 0 F_does_wait ds ()).map (·.1)
theorem d_does_wait (B : Bi mg) (Dd : Ds K mg "does_wait" (top 19) ["seats", "task"]) : Df P w K mg base k C (0 + 1) "does_wait" 2 (pureG G_does_wait) :=
  (df_of (N := N_does_wait) (lv := 0) (F := F_does_wait) Dd (C8.fnScope_by (by decide)) (by decide) fun f cdv A outer s H E hr => have nd : (N_does_wait).Nodup := by decide
    sb_one (ss_ret (ed_cmp op_notIn_seq ok_in (eb_var 1) (eb_of (ed_ofL (el_listVals rfl B.list (vw_vals (eb_var 0)))))))).pure

/-! ### reach -/
abbrev N_reach : List Str := ["table", "seats", "task", "found", "movers", "cpu", "mover"]
def F_reach : FS Unit := seqS (sPar2 3 4 (vL (lLst (aN))) (vD (oL (lLst (aC (xV 2) (aN)))))) (seqS (sWh 1000 (tst (o2 (iB fun i j => decide (j < i)) (o1 lenD (xB 4)) (cI 0))) (seqS (sPar2 6 4 (vD (o2 idxL (xB 4) (cI 0))) (vD (oL
    (sliL (xB 4) (pS (cI 1)) (pN))))) (sFor (iSeq (oL (sSeq (o2 idxK (xB 0) (xB 6))))) (bd1 5) (sIf (tst (o2 (inD true) (xB 5) (xB 3))) (seqS (sApp 3 (xV 5)) (sIf (tst (o2 (inK false) (xB 5) (xB 1))) (sSet 4 (oL (lLst (aS (xB 4)
    (aC (o2 idxK (xB 1) (xB 5)) (aN)))))) (sNil))) (sNil))))) (sRetO 3))
def G_reach (ds : List D) : Option D := (runD 3 4 F_reach ds ()).map (·.1)
theorem d_reach (B : Bi mg) (Dd : Ds K mg "reach" (top 20) ["table", "seats", "task"]) : Df P w K mg base k C (0 + 1) "reach" 3 (pureG G_reach) :=
  (df_of (N := N_reach) (lv := 0) (F := F_reach) Dd (C8.fnScope_by (by decide)) (by decide) fun f cdv A outer s H E hr => have nd : (N_reach).Nodup := by decide
    sb_cons (ss_par2 3 4 rfl nd (ev_L (el_lst (ea_nil))) (ev_val (ed_ofL (el_lst (ea_cons (ed_var 2) (ea_nil)))))) (sb_cons (ss_while 1000 PassesOwn.never (et_cmp op_gt ok_B (eb_of (ed_b1 call_len c_len B.len (by rfl) (eb_var 4)))
    (eb_of (ed_int))) (sb_cons (ss_par2 6 4 rfl nd (ev_val (ed_ix ix_lt ok_ix (eb_var 4) (eb_of (ed_int)))) (ev_val (ed_ofL (el_slice (eb_var 4) (eo_some (ed_int)) (eo_none))))) (sb_one (ss_for PassesOwn.never rfl (wi_seq (ed_ofL
    (el_sorted hr.units B.sorted (eb_of (ed_dget (u1 hr.units) (eb_var 0) (eb_var 6)))))) (gt_name 5 nd) (sb_one (ss_if (et_cmp op_notIn_seq ok_in (eb_var 5) (eb_var 3)) (sb_cons (ss_app 3 (ed_var 5)) (sb_one (ss_if (et_inK (u1
    hr.units) (eb_var 5) (eb_var 1)) (sb_one (ss_set 4 nd (ed_ofL (el_lst (ea_star (eb_var 4) (ea_cons (ed_dget (u1 hr.units) (eb_var 1) (eb_var 5)) (ea_nil))))))) (sb_nil)))) (sb_nil))))))) (sb_one (ss_retO 3)))).pure

/-! ### is_end -/
abbrev N_is_end : List Str := ["names", "seats", "task", "cpu"]
def F_is_end : FS Unit := sRet (eOr (o2 (inK true) (xB 3) (xB 1)) (o2 (iB fun i j => decide (j < i)) (o2 indexD (xB 0) (o2 idxK (xB 1) (xB 3))) (o2 indexD (xB 0) (xB 2))))
def G_is_end (ds : List D) : Option D := (runD 4 0 F_is_end ds ()).map (·.1)
theorem d_is_end (B : Bi mg) (Dd : Ds K mg "is_end" (top 21) ["names", "seats", "task", "cpu"]) : Df P w K mg base k C (0 + 1) "is_end" 4 (pureG G_is_end) :=
  (df_of (N := N_is_end) (lv := 0) (F := F_is_end) Dd (C8.fnScope_by (by decide)) (by decide) fun f cdv A outer s H E hr => have nd : (N_is_end).Nodup := by decide
    sb_one (ss_ret (ed_or (ed_ninK (u1 hr.units) (eb_var 3) (eb_var 1)) (ed_or1 (ed_cmp op_gt ok_B (eb_of (ed_index (eb_var 0) (eb_of (ed_dget (u1 hr.units) (eb_var 1) (eb_var 3))))) (eb_of (ed_index (eb_var 0) (eb_var 2)))))))).pure

/-! ### is_row_of -/
abbrev N_is_row_of : List Str := ["table", "seats", "row", "movers", "places", "mover", "cpu"]
def F_is_row_of : FS Unit := seqS (sPar2 3 4 (vD (stpT (xB 2) (pN) 2)) (vD (stpT (xB 2) (pS (cI 1)) 2))) (seqS (sIf (tOr (tst (o2 (eqD true) (o1 lenSet (xB 3)) (o1 lenD (xB 3)))) (tOr (tst (o2 (eqD true) (o1 lenSet (xB 4)) (o1
    lenD (xB 4)))) (tNot (tst (cP 2 G_does_wait (aC (xV 1) (aC (o2 idxL (xB 3) (cI 0)) (aN)))))))) (sRet (cB false)) (sNil)) (seqS (sIf (tNot (tst (o1 allD (oL (lcF (iZip (aC (xV 3) (aC (xV 4) (aN)))) (bd2 5 6) (ifT) (o2 (inD
    false) (xB 6) (o2 idxK (xB 0) (xB 5))) [5, 6]))))) (sRet (cB false)) (sNil)) (sRet (o1 allD (oL (lcF (iZip (aC (sliT (xV 3) (pS (cI 1)) (pN)) (aC (xV 4) (aN)))) (bd2 5 6) (ifT) (o2 (eqD false) (o2 (getK (.str "")) (xB 1) (xB
    6)) (xB 5)) [5, 6]))))))
def G_is_row_of (ds : List D) : Option D := (runD 3 4 F_is_row_of ds ()).map (·.1)
theorem d_is_row_of (B : Bi mg) (Dd : Ds K mg "is_row_of" (top 22) ["table", "seats", "row"]) (c_does_wait : Df P w K mg base k C 1 "does_wait" 2 (pureG G_does_wait)) : Df P w K mg base k C (1 + 1) "is_row_of" 3 (pureG
    G_is_row_of) :=
  (df_of (N := N_is_row_of) (lv := 1) (F := F_is_row_of) Dd (C8.fnScope_by (by decide)) (by decide) fun f cdv A outer s H E hr => have nd : (N_is_row_of).Nodup := by decide
    sb_cons (ss_par2 3 4 rfl nd (ev_val (ed_step (st := 2) pe_int (eb_var 2) (eo_none))) (ev_val (ed_step (st := 2) pe_int (eb_var 2) (eo_some (ed_int))))) (sb_cons (ss_if (et_w (ew_or (et_cmp (op_neD hr.units) ok_ne (eb_of (ed_lenset
    rfl B.len B.set (eb_var 3))) (eb_of (ed_b1 call_len c_len B.len (by rfl) (eb_var 3)))) (ew_or (et_cmp (op_neD hr.units) ok_ne (eb_of (ed_lenset rfl B.len B.set (eb_var 4))) (eb_of (ed_b1 call_len c_len B.len (by rfl) (eb_var
    4)))) (ew_one_or (et_not (et_val (ed_callP le c_does_wait (hr.mono (by decide)) (ea_cons (ed_var 1) (ea_cons (ed_ix ix_lt ok_ix (eb_var 3) (eb_of (ed_int))) (ea_nil)))))))))) (sb_one (ss_ret (ed_bl))) (sb_nil)) (sb_cons (ss_if
    (et_not (et_val (ed_b1 (cr_all rfl) c_all B.all (by rfl) (eb_of (ed_ofL (el_lc [("mover", 5), ("cpu", 6)] rfl nd (wi_zip B.zip (ea_cons (ed_var 3) (ea_cons (ed_var 4) (ea_nil)))) (blkOk_by (by rfl)) (fun _ _ _ _ _ => gt_two 5
    6 rfl nd) (fun _ _ _ _ _ => pts_t0) (fun _ _ _ _ _ => ed_cmp op_in_seq ok_in (eb_var 6) (eb_of (ed_dget (u1 hr.units) (eb_var 0) (eb_var 5)))))))))) (sb_one (ss_ret (ed_bl))) (sb_nil)) (sb_one (ss_ret (ed_b1 (cr_all rfl) c_all
    B.all (by rfl) (eb_of (ed_ofL (el_lc [("mover", 5), ("cpu", 6)] rfl nd (wi_zip B.zip (ea_cons (ed_slice (ed_var 3) (eo_some (ed_int)) (eo_none)) (ea_cons (ed_var 4) (ea_nil)))) (blkOk_by (by rfl)) (fun _ _ _ _ _ => gt_two 5 6
    rfl nd) (fun _ _ _ _ _ => pts_t0) (fun _ _ _ _ _ => ed_cmp (op_eqD hr.units) ok_eq (eb_of (ed_get2 (z := "") (u1 hr.units) (eb_var 1) (eb_var 6) pe_str)) (eb_var 5))))))))))).pure

/-! ### is_shift -/
abbrev N_is_shift : List Str := ["book", "ready", "seating", "thing", "table", "seats", "names", "own", "mover"]
def F_is_shift : FS Unit := seqS (sIf (tOr (tNot (tst (o1 (isiD ["tuple"]) (xB 3)))) (tOr (tst (o2 (eqD false) (o1 lenD (xB 3)) (cI 0))) (tst (o2 (eqD true) (o2 (iI modI) (o1 lenD (xB 3)) (cI 2)) (cI 0))))) (sRet (cB false))
    (sNil)) (seqS (sIf (tNot (tst (o1 allD (oL (lcF (iSeq (xV 3)) (bd1 7) (ifT) (cP 1 G_is_name (aC (xV 7) (aN))) [7]))))) (sRet (cB false)) (sNil)) (seqS (sUnp (bd3 4 5 6) (eTup (aC (cP 2 G_may_table (aC (xV 0) (aC (xV 1) (aN))))
    (aC (oK (kCall 1 GK_seats_of (aC (xV 2) (aN)))) (aC (cP 1 G_tasks_of (aC (xV 1) (aN))) (aN)))))) (seqS (sIf (tOr (tNot (tst (o1 allD (oL (lcF (iSeq (stpT (xB 3) (pN) 2)) (bd1 8) (ifT) (o2 (inD false) (xB 8) (xB 6)) [8])))))
    (tNot (tst (cP 3 G_is_row_of (aC (xV 4) (aC (xV 5) (aC (xV 3) (aN)))))))) (sRet (cB false)) (sNil)) (sRet (cP 4 G_is_end (aC (xV 6) (aC (xV 5) (aC (o2 idxL (xB 3) (cI 0)) (aC (o2 idxL (xB 3) (eNeg (cI 1))) (aN))))))))))
def G_is_shift (ds : List D) : Option D := (runD 4 5 F_is_shift ds ()).map (·.1)
theorem d_is_shift (B : Bi mg) (Dd : Ds K mg "is_shift" (top 23) ["book", "ready", "seating", "thing"]) (O : OqC K k.oc) (c_is_name : Df P w K mg base k C 1 "is_name" 1 (pureG G_is_name)) (c_tasks_of : Df P w K mg base k C 1
    "tasks_of" 1 (pureG G_tasks_of)) (c_seats_of : DfK P w K mg base k C 10 "seats_of" 1 GK_seats_of) (c_may_table : Df P w K mg base k C 11 "may_table" 2 (pureG G_may_table)) (c_is_row_of : Df P w K mg base k C 2 "is_row_of" 3
    (pureG G_is_row_of)) (c_is_end : Df P w K mg base k C 1 "is_end" 4 (pureG G_is_end)) : Df P w K mg base k C (11 + 1) "is_shift" 4 (pureG G_is_shift) :=
  (df_of (N := N_is_shift) (lv := 11) (F := F_is_shift) Dd (C8.fnScope_by (by decide)) (by decide) fun f cdv A outer s H E hr => have nd : (N_is_shift).Nodup := by decide
    sb_cons (ss_if (et_w (ew_or (et_not (et_val (ed_isi O "tuple" B.isinstance B.tuple (eb_var 3)))) (ew_or (et_cmp (op_eqD hr.units) ok_eq (eb_of (ed_b1 call_len c_len B.len (by rfl) (eb_var 3))) (eb_of (ed_int))) (ew_one_or (et_cmp
    (op_neD hr.units) ok_ne (eb_of (ed_op op_mod ok_mod (eb_of (ed_b1 call_len c_len B.len (by rfl) (eb_var 3))) (eb_of (ed_int)))) (eb_of (ed_int))))))) (sb_one (ss_ret (ed_bl))) (sb_nil)) (sb_cons (ss_if (et_not (et_val (ed_b1
    (cr_all rfl) c_all B.all (by rfl) (eb_of (ed_ofL (el_lc [("own", 7)] rfl nd (wi_seq (ed_var 3)) (blkOk_by (by rfl)) (fun _ _ _ _ _ => gt_name 7 nd) (fun _ _ _ _ _ => pts_t0) (fun _ _ _ _ _ => ed_callP le c_is_name (hr.mono (by
    decide)) (ea_cons (ed_var 7) (ea_nil))))))))) (sb_one (ss_ret (ed_bl))) (sb_nil)) (sb_cons (ss_unp (ed_tup (ea_cons (ed_callP le c_may_table (hr.mono (by decide)) (ea_cons (ed_var 0) (ea_cons (ed_var 1) (ea_nil)))) (ea_cons
    (ed_ofK (ek_call le c_seats_of (hr.mono (by decide)) (ea_cons (ed_var 2) (ea_nil)))) (ea_cons (ed_callP le c_tasks_of (hr.mono (by decide)) (ea_cons (ed_var 1) (ea_nil))) (ea_nil))))) (gt_three 4 5 6 rfl nd)) (sb_cons (ss_if
    (et_w (ew_or (et_not (et_val (ed_b1 (cr_all rfl) c_all B.all (by rfl) (eb_of (ed_ofL (el_lc [("mover", 8)] rfl nd (wi_seq (ed_step (st := 2) pe_int (eb_var 3) (eo_none))) (blkOk_by (by rfl)) (fun _ _ _ _ _ => gt_name 8 nd)
    (fun _ _ _ _ _ => pts_t0) (fun _ _ _ _ _ => ed_cmp op_in_seq ok_in (eb_var 8) (eb_var 6)))))))) (ew_one_or (et_not (et_val (ed_callP le c_is_row_of (hr.mono (by decide)) (ea_cons (ed_var 4) (ea_cons (ed_var 5) (ea_cons (ed_var
    3) (ea_nil)))))))))) (sb_one (ss_ret (ed_bl))) (sb_nil)) (sb_one (ss_ret (ed_callP le c_is_end (hr.mono (by decide)) (ea_cons (ed_var 6) (ea_cons (ed_var 5) (ea_cons (ed_ix ix_lt ok_ix (eb_var 3) (eb_of (ed_int))) (ea_cons
    (ed_ix ix_lt ok_ix (eb_var 3) (eb_of (ed_neg (eb_of (ed_int))))) (ea_nil)))))))))))).pure

/-! ### ways_on -/
abbrev N_ways_on : List Str := ["table", "seats", "way", "mover", "cpu"]
def F_ways_on : FS Unit := seqS (sIf (tst (o2 (inK true) (o2 idxL (xB 2) (eNeg (cI 1))) (xB 1))) (sRet (oL (lLst (aN)))) (sNil)) (seqS (sSet 3 (o2 idxK (xB 1) (o2 idxL (xB 2) (eNeg (cI 1))))) (sRet (oL (lcF (iSeq (oL (sSeq (o2
    idxK (xB 0) (xB 3))))) (bd1 4) (tst (o2 (inD true) (xB 4) (stpT (xB 2) (pS (cI 1)) 2))) (eTup (aS (xB 2) (aC (xV 3) (aC (xV 4) (aN))))) [4]))))
def G_ways_on (ds : List D) : Option D := (runD 3 2 F_ways_on ds ()).map (·.1)
theorem d_ways_on (B : Bi mg) (Dd : Ds K mg "ways_on" (top 24) ["table", "seats", "way"]) : Df P w K mg base k C (0 + 1) "ways_on" 3 (pureG G_ways_on) :=
  (df_of (N := N_ways_on) (lv := 0) (F := F_ways_on) Dd (C8.fnScope_by (by decide)) (by decide) fun f cdv A outer s H E hr => have nd : (N_ways_on).Nodup := by decide
    sb_cons (ss_if (et_ninK (u1 hr.units) (eb_of (ed_ix ix_lt ok_ix (eb_var 2) (eb_of (ed_neg (eb_of (ed_int)))))) (eb_var 1)) (sb_one (ss_ret (ed_ofL (el_lst (ea_nil))))) (sb_nil)) (sb_cons (ss_set 3 nd (ed_dget (u1 hr.units) (eb_var
    1) (eb_of (ed_ix ix_lt ok_ix (eb_var 2) (eb_of (ed_neg (eb_of (ed_int)))))))) (sb_one (ss_ret (ed_ofL (el_lc [("cpu", 4)] rfl nd (wi_seq (ed_ofL (el_sorted hr.units B.sorted (eb_of (ed_dget (u1 hr.units) (eb_var 0) (eb_var
    3)))))) (blkOk_by (by rfl)) (fun _ _ _ _ _ => gt_name 4 nd) (fun _ _ _ _ _ => pts_t1 (et_cmp op_notIn_seq ok_in (eb_var 4) (eb_of (ed_step (st := 2) pe_int (eb_var 2) (eo_some (ed_int)))))) (fun _ _ _ _ _ => ed_tup (ea_star
    (eb_var 2) (ea_cons (ed_var 3) (ea_cons (ed_var 4) (ea_nil))))))))))).pure

/-! ### shortest -/
abbrev N_shortest : List Str := ["table", "seats", "task", "goals", "ways", "seen", "way", "cpu"]
def F_shortest : FS Unit := seqS (sPar2 4 5 (vD (oL (lcF (iSeq (oL (sSeq (o2 idxK (xB 0) (xB 2))))) (bd1 7) (ifT) (eTup (aC (xV 2) (aC (xV 7) (aN)))) [7]))) (vL (lLst (aN)))) (seqS (sWh 1000 (tst (o2 (iB fun i j => decide (j < i))
    (o1 lenD (xB 4)) (cI 0))) (seqS (sPar2 6 4 (vD (o2 idxL (xB 4) (cI 0))) (vD (oL (sliL (xB 4) (pS (cI 1)) (pN))))) (seqS (sIf (tst (o2 (inD false) (o2 idxL (xB 6) (eNeg (cI 1))) (xB 3))) (sRet (xV 6)) (sNil)) (sIf (tst (o2 (inD
    true) (o2 idxL (xB 6) (eNeg (cI 1))) (xB 5))) (seqS (sApp 5 (o2 idxL (xB 6) (eNeg (cI 1)))) (sSet 4 (oL (l2 catL (xB 4) (cP 3 G_ways_on (aC (xV 0) (aC (xV 1) (aC (xV 6) (aN))))))))) (sNil))))) (sRet (cN)))
def G_shortest (ds : List D) : Option D := (runD 4 4 F_shortest ds ()).map (·.1)
theorem d_shortest (B : Bi mg) (Dd : Ds K mg "shortest" (top 25) ["table", "seats", "task", "goals"]) (c_ways_on : Df P w K mg base k C 1 "ways_on" 3 (pureG G_ways_on)) : Df P w K mg base k C (1 + 1) "shortest" 4 (pureG
    G_shortest) :=
  (df_of (N := N_shortest) (lv := 1) (F := F_shortest) Dd (C8.fnScope_by (by decide)) (by decide) fun f cdv A outer s H E hr => have nd : (N_shortest).Nodup := by decide
    sb_cons (ss_par2 4 5 rfl nd (ev_val (ed_ofL (el_lc [("cpu", 7)] rfl nd (wi_seq (ed_ofL (el_sorted hr.units B.sorted (eb_of (ed_dget (u1 hr.units) (eb_var 0) (eb_var 2)))))) (blkOk_by (by rfl)) (fun _ _ _ _ _ => gt_name 7 nd) (fun
    _ _ _ _ _ => pts_t0) (fun _ _ _ _ _ => ed_tup (ea_cons (ed_var 2) (ea_cons (ed_var 7) (ea_nil))))))) (ev_L (el_lst (ea_nil)))) (sb_cons (ss_while 1000 PassesOwn.never (et_cmp op_gt ok_B (eb_of (ed_b1 call_len c_len B.len (by
    rfl) (eb_var 4))) (eb_of (ed_int))) (sb_cons (ss_par2 6 4 rfl nd (ev_val (ed_ix ix_lt ok_ix (eb_var 4) (eb_of (ed_int)))) (ev_val (ed_ofL (el_slice (eb_var 4) (eo_some (ed_int)) (eo_none))))) (sb_cons (ss_if (et_cmp op_in_seq
    ok_in (eb_of (ed_ix ix_lt ok_ix (eb_var 6) (eb_of (ed_neg (eb_of (ed_int)))))) (eb_var 3)) (sb_one (ss_ret (ed_var 6))) (sb_nil)) (sb_one (ss_if (et_cmp op_notIn_seq ok_in (eb_of (ed_ix ix_lt ok_ix (eb_var 6) (eb_of (ed_neg
    (eb_of (ed_int)))))) (eb_var 5)) (sb_cons (ss_app 5 (ed_ix ix_lt ok_ix (eb_var 6) (eb_of (ed_neg (eb_of (ed_int)))))) (sb_one (ss_set 4 nd (ed_ofL (el_cat (eb_var 4) (eb_of (ed_callP le c_ways_on (hr.mono (by decide)) (ea_cons
    (ed_var 0) (ea_cons (ed_var 1) (ea_cons (ed_var 6) (ea_nil))))))))))) (sb_nil)))))) (sb_one (ss_ret (ed_non))))).pure

end
end MM
/-! D2 -/
namespace MM
open PySem PySem.Spec PyProof.Rows L2
open LamX (Tabs TabS TabB ExtN CodeO lamEnv lamCx)
/-- the cell with the lambda's table (and what else is none of ours) -/
def lamQ : Str := "right_ends_of.<locals>.<lambda>"
def Cb (P : Addr) (ex : Addr → Prop) : Cell Unit where
  mu := fun a => a = P ∨ ex a
  rep := fun _ H => Tabs [(P, lamQ)] H
  stay := fun _ H H' h k p hp => by
    obtain ⟨ps, h1, h2, h3⟩ := h p hp
    refine ⟨ps, k _ _ h1 (.inl (.inl (by rw [List.mem_singleton.mp hp]))), h2, fun pos cv hc => ?_⟩
    obtain ⟨c, e1, e2⟩ := h3 pos cv hc
    exact ⟨c, e1, k _ _ e2 (.inr fun z => z)⟩
/-- a def whose code object is known -/
theorem df_ofL {T : Type} {k : Kx} {C : Cell T} {Pg : Program} {w : World} {K : PySem.W.Frag} {mg : Str → Option Value} {base : Heap} {x : Str} {st : Stmt} {N ps : List Str} {lv : Nat} {F : FS T} {c : Addr} (Fd : Ds K mg x st ps)
    (hc : ∀ (f : Addr) (fd : FuncData) (oc : Value) (od : Option Addr) (osl : Array (Option Value)) (c' : Addr), mg x = some (.ref f) → K.lookup f = some ⟨oc, od, .func fd, osl⟩ → fd.code = .ref c' → c' = c)
    (S : FnScope N ps (defScope st)) (hl : ps.length ≤ N.length)
    (hb : ∀ (f : Addr) (A : Around) (outer : List PySem.Env) (s : Shared) (H : Hp) (E : XK), Room lv (A.deeper (envOfC x (defScope st) s.heap.objs.size f (.ref c))) → SB k C (cx0 Pg w K mg base N x st f (.ref c) A outer s H E) (defBody st) F) :
    Df Pg w K mg base k C (lv + 1) x ps.length (runD ps.length (N.length - ps.length) F) := by
  obtain ⟨f, fd, a, b, d⟩ := Fd.ex
  obtain ⟨oc, od, dV, kV, doc, pm, an, cdv, ct, osl, rfl, lk, hcd, dv, kv⟩ := a.ex
  obtain ⟨c', rfl⟩ : ∃ c', cdv = .ref c' := by cases cdv <;> first | exact ⟨_, rfl⟩ | cases hcd
  obtain rfl := hc f _ oc od osl c' b lk rfl
  refine ⟨f, _, ps, fn_of lk hcd S (fun vs H Q E h => ?_) fun A outer s H vs Q E hr h => ?_, b, a.kp, d⟩
  · obtain ⟨H0, ds, t, d, t', _, _, _, ra, hn, _⟩ := h
    rw [← ra.length, hn]
  · obtain ⟨H0, ds, t, d, t', s0, m, r, ra, hn, e, q⟩ := h
    refine ⟨_, PSs.nox (hb f A outer s H E hr), ?_⟩
    unfold runD at e
    rw [if_pos hn] at e
    obtain ⟨o, t1, e1, e2⟩ := bnd_some e
    have R0 := rs_start (N := N) s0 m r ra (by rw [hn]; exact hl)
    rw [hn] at R0
    refine ⟨H0, H, H0, _, t, o, t1, R0, e1, ?_⟩
    cases o with
    | rt d' =>
      obtain ⟨rfl, rfl⟩ := ret_some e2
      exact fun H0' H' v g s1 r1 rv => q H0' H' v g s1 r1 rv
    | nx ρ =>
      obtain ⟨rfl, rfl⟩ := ret_some e2
      exact fun H0' H' σ' R _ => q H0' H' .non R.go R.sub R.rep .non
    | bk ρ => cases e2
    | ct ρ => cases e2
section
variable {k : Kx} {Pt : Addr} {ex : Addr → Prop} {P : Program} {w : World} {K : PySem.W.Frag} {mg : Str → Option Value} {base : Heap}
/-! ### right_ends_of -/
abbrev N_right_ends_of : List Str := ["table", "seats", "names", "task", "every", "free", "worst", "cpu"]
def F_right_ends_of : FS Unit := seqS (sSet 4 (cP 3 G_reach (aC (xV 0) (aC (xV 1) (aC (xV 3) (aN)))))) (seqS (sLc 5 (lcF (iSeq (xV 4)) (bd1 7) (tst (o2 (inK true) (xB 7) (xB 1))) (xV 7) [7])) (seqS (sIf (tst (o2 (iB fun i j => decide (j < i)) (o1 lenD (xB 5)) (cI 0))) (sRet (xV 5)) (sNil)) (seqS (sSet 6 (fun ρ => lft (maxF 4 2 1 7 ρ))) (sRet (eIf (tst (cP 4 G_is_end (aC (xV 2) (aC (xV 1) (aC (xV 3) (aC (xV 6) (aN))))))) (oL (lLst (aC (xV 6) (aN)))) (oL (lLst (aN))))))))
def G_right_ends_of (ds : List D) : Option D := (runD 4 4 F_right_ends_of ds ()).map (·.1)
theorem d_right_ends_of (B : Bi mg) (hmg : mg "max" = none) {c : Addr} (TB : TabB base mg c Pt) (hc : ∀ (f : Addr) (fd : FuncData) (oc : Value) (od : Option Addr) (osl : Array (Option Value)) (c' : Addr), mg "right_ends_of" = some (.ref f) → K.lookup f = some ⟨oc, od, .func fd, osl⟩ → fd.code = .ref c' → c' = c) (Dd : Ds K mg "right_ends_of" (top 27) ["table", "seats", "names", "task"]) (c_reach : Df P w K mg base k (Cb Pt ex) 1 "reach" 3 (pureG G_reach)) (c_is_end : Df P w K mg base k (Cb Pt ex) 1 "is_end" 4 (pureG G_is_end)) : Df P w K mg base k (Cb Pt ex) (2 + 1) "right_ends_of" 4 (pureG G_right_ends_of) := (df_ofL (N := N_right_ends_of) (lv := 2) (F := F_right_ends_of) Dd hc (C8.fnScope_by (by decide)) (by decide) fun f A outer s H E hr => have nd : (N_right_ends_of).Nodup := by decide
     sb_cons (ss_set 4 nd (ed_callP le c_reach (hr.mono (by decide)) (ea_cons (ed_var 0) (ea_cons (ed_var 1) (ea_cons (ed_var 3) (ea_nil)))))) (sb_cons (ss_lc [("cpu", 7)] 5 rfl nd (wi_seq (ed_var 4)) (blkOk_by (by rfl)) (fun _ _ _ _ _ => gt_name 7 nd) (fun _ _ _ _ _ => pts_t1 (et_ninK (u1 hr.units) (eb_var 7) (eb_var 1))) (fun _ _ _ _ _ => ed_var 7) (by rfl)) (sb_cons (ss_if (et_cmp op_gt ok_B (eb_of (ed_b1 call_len c_len B.len (by rfl) (eb_var 5))) (eb_of (ed_int))) (sb_one (ss_ret (ed_var 5))) (sb_nil)) (sb_cons (ss_set 6 nd (ed_maxlam (Tb := [(Pt, lamQ)]) (k0 := 0) rfl nd hmg rfl (iE := 4) (iN := 2) (iS := 1) (ic := 7) rfl rfl rfl rfl (by first | exact Or.inl rfl | exact Or.inr (Or.inl rfl)) (by decide) (by decide) TB rfl List.mem_cons_self
      (fun p hp _ => by rw [List.mem_singleton.mp hp]; rfl) (fun _ _ h => h) (fun _ _ _ _ _ h => h) (.inl rfl) (hr.mono (by decide)) (lamP_by (by rfl)) rfl (by decide) (by decide) (fun q cl pm cv ctv u => by rfl)
      (fun A s H f c' hr' => pe_bm PySem.F.plainAttrs_list PySem.F.slot_list_index PySem.F.type_list_index mt_index (pe_var rfl (.inr (.inr rfl))) (pa_cons (pe_dget (u1 hr'.units) (pe_var rfl (.inr (.inr rfl))) (pe_var rfl (.inl rfl)) (fun _ _ => rfl)) pa_nil rfl) rfl rfl rfl rfl rfl) rfl rfl rfl)) (sb_one (ss_ret (ed_if (et_val (ed_callP le c_is_end (hr.mono (by decide)) (ea_cons (ed_var 2) (ea_cons (ed_var 1) (ea_cons (ed_var 3) (ea_cons (ed_var 6) (ea_nil))))))) (ed_ofL (el_lst (ea_cons (ed_var 6) (ea_nil)))) (ed_ofL (el_lst (ea_nil)))))))))).pure 
end
section
variable {k : Kx} {C : Cell Unit} {P : Program} {w : World} {K : PySem.W.Frag} {mg : Str → Option Value} {base : Heap}
/-! ### best_way -/
abbrev N_best_way : List Str := ["book", "ready", "seating", "task", "right", "goals", "table", "seats", "names"]
def F_best_way : FS Unit := seqS (sEx (cP 2 G_check_task (aC (xV 1) (aC (xV 3) (aN))))) (seqS (sPar3 6 7 8 (vD (cP 2 G_may_table (aC (xV 0) (aC (xV 1) (aN))))) (vD (oK (kCall 1 GK_seats_of (aC (xV 2) (aN))))) (vD (cP 1 G_tasks_of
    (aC (xV 1) (aN))))) (seqS (sIf (tNot (tst (cP 2 G_does_wait (aC (xV 7) (aC (xV 3) (aN)))))) (sRet (cN)) (sNil)) (seqS (sSet 5 (eIf (tst (xV 4)) (cP 4 G_right_ends_of (aC (xV 6) (aC (xV 7) (aC (xV 8) (aC (xV 3) (aN)))))) (fun _
    _ => none))) (sRet (cP 4 G_shortest (aC (xV 6) (aC (xV 7) (aC (xV 3) (aC (xV 5) (aN))))))))))
def G_best_way (ds : List D) : Option D := (runD 5 4 F_best_way ds ()).map (·.1)
theorem d_best_way (B : Bi mg) (Dd : Ds K mg "best_way" (top 28) ["book", "ready", "seating", "task", "right"]) (c_check_task : Df P w K mg base k C 2 "check_task" 2 (pureG G_check_task)) (c_may_table : Df P w K mg base k C 11
    "may_table" 2 (pureG G_may_table)) (c_seats_of : DfK P w K mg base k C 10 "seats_of" 1 GK_seats_of) (c_tasks_of : Df P w K mg base k C 1 "tasks_of" 1 (pureG G_tasks_of)) (c_does_wait : Df P w K mg base k C 1 "does_wait" 2
    (pureG G_does_wait)) (c_right_ends_of : Df P w K mg base k C 3 "right_ends_of" 4 (pureG G_right_ends_of)) (c_shortest : Df P w K mg base k C 2 "shortest" 4 (pureG G_shortest)) : Df P w K mg base k C (11 + 1) "best_way" 5
    (pureG G_best_way) :=
  (df_of (N := N_best_way) (lv := 11) (F := F_best_way) Dd (C8.fnScope_by (by decide)) (by decide) fun f cdv A outer s H E hr => have nd : (N_best_way).Nodup := by decide
    sb_cons (ss_expr (ed_callP le c_check_task (hr.mono (by decide)) (ea_cons (ed_var 1) (ea_cons (ed_var 3) (ea_nil))))) (sb_cons (ss_par3 6 7 8 rfl nd (ev_val (ed_callP le c_may_table (hr.mono (by decide)) (ea_cons (ed_var 0)
    (ea_cons (ed_var 1) (ea_nil))))) (ev_val (ed_ofK (ek_call le c_seats_of (hr.mono (by decide)) (ea_cons (ed_var 2) (ea_nil))))) (ev_val (ed_callP le c_tasks_of (hr.mono (by decide)) (ea_cons (ed_var 1) (ea_nil))))) (sb_cons
    (ss_if (et_not (et_val (ed_callP le c_does_wait (hr.mono (by decide)) (ea_cons (ed_var 7) (ea_cons (ed_var 3) (ea_nil)))))) (sb_one (ss_ret (ed_non))) (sb_nil)) (sb_cons (ss_set 5 nd (ed_if (et_val (ed_var 4)) (ed_callP le
    c_right_ends_of (hr.mono (by decide)) (ea_cons (ed_var 6) (ea_cons (ed_var 7) (ea_cons (ed_var 8) (ea_cons (ed_var 3) (ea_nil)))))) (ed_never))) (sb_one (ss_ret (ed_callP le c_shortest (hr.mono (by decide)) (ea_cons (ed_var 6)
    (ea_cons (ed_var 7) (ea_cons (ed_var 3) (ea_cons (ed_var 5) (ea_nil)))))))))))).pure

/-! ### a_right_shift -/
abbrev N_a_right_shift : List Str := ["book", "ready", "seating", "task"]
def F_a_right_shift : FS Unit := sRet (cP 5 G_best_way (aC (xV 0) (aC (xV 1) (aC (xV 2) (aC (xV 3) (aC (cB true) (aN)))))))
def G_a_right_shift (ds : List D) : Option D := (runD 4 0 F_a_right_shift ds ()).map (·.1)
theorem d_a_right_shift (B : Bi mg) (Dd : Ds K mg "a_right_shift" (top 29) ["book", "ready", "seating", "task"]) (c_best_way : Df P w K mg base k C 12 "best_way" 5 (pureG G_best_way)) : Df P w K mg base k C (12 + 1)
    "a_right_shift" 4 (pureG G_a_right_shift) :=
  (df_of (N := N_a_right_shift) (lv := 12) (F := F_a_right_shift) Dd (C8.fnScope_by (by decide)) (by decide) fun f cdv A outer s H E hr => have nd : (N_a_right_shift).Nodup := by decide
    sb_one (ss_ret (ed_callP le c_best_way (hr.mono (by decide)) (ea_cons (ed_var 0) (ea_cons (ed_var 1) (ea_cons (ed_var 2) (ea_cons (ed_var 3) (ea_cons (ed_bl) (ea_nil))))))))).pure

/-! ### shifted -/
abbrev N_shifted : List Str := ["seating", "shift", "seats", "mover", "cpu"]
def F_shifted : FS Unit := seqS (sSetK 2 (kCall 1 GK_seats_of (aC (xV 0) (aN)))) (seqS (sFor (iZip (aC (stpT (xB 1) (pN) 2) (aC (stpT (xB 1) (pS (cI 1)) 2) (aN)))) (bd2 3 4) (sPut 2 (xV 4) (xV 3))) (sRet (tt1 lstD (oL (sItms (k1
    dctD (xB 2)))))))
def G_shifted (ds : List D) : Option D := (runD 2 3 F_shifted ds ()).map (·.1)
theorem d_shifted (B : Bi mg) (Dd : Ds K mg "shifted" (top 30) ["seating", "shift"]) (c_seats_of : DfK P w K mg base k C 10 "seats_of" 1 GK_seats_of) : Df P w K mg base k C (10 + 1) "shifted" 2 (pureG G_shifted) :=
  (df_of (N := N_shifted) (lv := 10) (F := F_shifted) Dd (C8.fnScope_by (by decide)) (by decide) fun f cdv A outer s H E hr => have nd : (N_shifted).Nodup := by decide
    sb_cons (ss_setK 2 nd (ek_call le c_seats_of (hr.mono (by decide)) (ea_cons (ed_var 0) (ea_nil)))) (sb_cons (ss_for PassesOwn.never rfl (wi_zip B.zip (ea_cons (ed_step (st := 2) pe_int (eb_var 1) (eo_none)) (ea_cons (ed_step (st
    := 2) pe_int (eb_var 1) (eo_some (ed_int))) (ea_nil)))) (gt_two 3 4 rfl nd) (sb_one (ss_dput 2 (u1 hr.units) (ed_var 4) (ed_var 3)))) (sb_one (ss_ret (ed_tt call_tupF c_tuple B.tuple (by rfl) (eb_of (ed_ofL (el_sortItms rfl
    hr.units B.sorted (vw_itms (eb_var 2)))))))))).pure

/-! ### next_shift -/
abbrev N_next_shift : List Str := ["book", "ready", "seating", "task", "way"]
def F_next_shift : FS Unit := seqS (sFor (iSeq (cP 1 G_tasks_of (aC (xV 1) (aN)))) (bd1 3) (seqS (sSet 4 (cP 4 G_a_right_shift (aC (xV 0) (aC (xV 1) (aC (xV 2) (aC (xV 3) (aN))))))) (sIf (notNo (xB 4)) (sRet (xV 4)) (sNil))))
    (sRet (cN))
def G_next_shift (ds : List D) : Option D := (runD 3 2 F_next_shift ds ()).map (·.1)
theorem d_next_shift (B : Bi mg) (Dd : Ds K mg "next_shift" (top 31) ["book", "ready", "seating"]) (c_tasks_of : Df P w K mg base k C 1 "tasks_of" 1 (pureG G_tasks_of)) (c_a_right_shift : Df P w K mg base k C 13 "a_right_shift" 4
    (pureG G_a_right_shift)) : Df P w K mg base k C (13 + 1) "next_shift" 3 (pureG G_next_shift) :=
  (df_of (N := N_next_shift) (lv := 13) (F := F_next_shift) Dd (C8.fnScope_by (by decide)) (by decide) fun f cdv A outer s H E hr => have nd : (N_next_shift).Nodup := by decide
    sb_cons (ss_for PassesOwn.never rfl (wi_seq (ed_callP le c_tasks_of (hr.mono (by decide)) (ea_cons (ed_var 1) (ea_nil)))) (gt_name 3 nd) (sb_cons (ss_set 4 nd (ed_callP le c_a_right_shift (hr.mono (by decide)) (ea_cons (ed_var 0)
    (ea_cons (ed_var 1) (ea_cons (ed_var 2) (ea_cons (ed_var 3) (ea_nil))))))) (sb_one (ss_if (et_notN (eb_var 4)) (sb_one (ss_ret (ed_var 4))) (sb_nil))))) (sb_one (ss_ret (ed_non)))).pure

/-! ### is_settled -/
abbrev N_is_settled : List Str := ["book", "ready", "seating"]
def F_is_settled : FS Unit := sRet (eIsNo (cP 3 G_next_shift (aC (xV 0) (aC (xV 1) (aC (xV 2) (aN))))))
def G_is_settled (ds : List D) : Option D := (runD 3 0 F_is_settled ds ()).map (·.1)
theorem d_is_settled (B : Bi mg) (Dd : Ds K mg "is_settled" (top 32) ["book", "ready", "seating"]) (c_next_shift : Df P w K mg base k C 14 "next_shift" 3 (pureG G_next_shift)) : Df P w K mg base k C (14 + 1) "is_settled" 3 (pureG
    G_is_settled) :=
  (df_of (N := N_is_settled) (lv := 14) (F := F_is_settled) Dd (C8.fnScope_by (by decide)) (by decide) fun f cdv A outer s H E hr => have nd : (N_is_settled).Nodup := by decide
    sb_one (ss_ret (ed_isN (eb_of (ed_callP le c_next_shift (hr.mono (by decide)) (ea_cons (ed_var 0) (ea_cons (ed_var 1) (ea_cons (ed_var 2) (ea_nil))))))))).pure

/-! ### settling -/
abbrev N_settling : List Str := ["book", "ready", "seating", "way", "here", "found"]
def F_settling : FS Unit := seqS (sPar2 4 5 (vD (cP 1 (G_tupled 8) (aC (xV 2) (aN)))) (vL (lLst (aN)))) (seqS (sSet 3 (cP 3 G_next_shift (aC (xV 0) (aC (xV 1) (aC (xV 4) (aN)))))) (seqS (sWh 1000 (notNo (xB 3)) (seqS (sApp 5 (xV
    3)) (seqS (sSet 4 (cP 2 G_shifted (aC (xV 4) (aC (xV 3) (aN))))) (sSet 3 (cP 3 G_next_shift (aC (xV 0) (aC (xV 1) (aC (xV 4) (aN))))))))) (sRet (tt1 lstD (xB 5)))))
def G_settling (ds : List D) : Option D := (runD 3 3 F_settling ds ()).map (·.1)
theorem d_settling (B : Bi mg) (Dd : Ds K mg "settling" (top 33) ["book", "ready", "seating"]) (c_tupled : Df P w K mg base k C 9 "tupled" 1 (pureG (G_tupled 8))) (c_next_shift : Df P w K mg base k C 14 "next_shift" 3 (pureG
    G_next_shift)) (c_shifted : Df P w K mg base k C 11 "shifted" 2 (pureG G_shifted)) : Df P w K mg base k C (14 + 1) "settling" 3 (pureG G_settling) :=
  (df_of (N := N_settling) (lv := 14) (F := F_settling) Dd (C8.fnScope_by (by decide)) (by decide) fun f cdv A outer s H E hr => have nd : (N_settling).Nodup := by decide
    sb_cons (ss_par2 4 5 rfl nd (ev_val (ed_callP le c_tupled (hr.mono (by decide)) (ea_cons (ed_var 2) (ea_nil)))) (ev_L (el_lst (ea_nil)))) (sb_cons (ss_set 3 nd (ed_callP le c_next_shift (hr.mono (by decide)) (ea_cons (ed_var 0)
    (ea_cons (ed_var 1) (ea_cons (ed_var 4) (ea_nil)))))) (sb_cons (ss_while 1000 PassesOwn.never (et_notN (eb_var 3)) (sb_cons (ss_app 5 (ed_var 3)) (sb_cons (ss_set 4 nd (ed_callP le c_shifted (hr.mono (by decide)) (ea_cons
    (ed_var 4) (ea_cons (ed_var 3) (ea_nil))))) (sb_one (ss_set 3 nd (ed_callP le c_next_shift (hr.mono (by decide)) (ea_cons (ed_var 0) (ea_cons (ed_var 1) (ea_cons (ed_var 4) (ea_nil)))))))))) (sb_one (ss_ret (ed_tt call_tupF
    c_tuple B.tuple (by rfl) (eb_var 5))))))).pure

/-! ### is_settling -/
abbrev N_is_settling : List Str := ["book", "ready", "seating", "thing", "here", "way"]
def F_is_settling : FS Unit := seqS (sIf (tNot (tst (o1 (isiD ["tuple"]) (xB 3)))) (sRet (cB false)) (sNil)) (seqS (sSet 4 (cP 1 (G_tupled 8) (aC (xV 2) (aN)))) (seqS (sFor (iSeq (xV 3)) (bd1 5) (seqS (sIf (tNot (tst (cP 4
    G_is_shift (aC (xV 0) (aC (xV 1) (aC (xV 4) (aC (xV 5) (aN)))))))) (sRet (cB false)) (sNil)) (sSet 4 (cP 2 G_shifted (aC (xV 4) (aC (xV 5) (aN))))))) (sRet (cP 3 G_is_settled (aC (xV 0) (aC (xV 1) (aC (xV 4) (aN))))))))
def G_is_settling (ds : List D) : Option D := (runD 4 2 F_is_settling ds ()).map (·.1)
theorem d_is_settling (B : Bi mg) (Dd : Ds K mg "is_settling" (top 34) ["book", "ready", "seating", "thing"]) (O : OqC K k.oc) (c_tupled : Df P w K mg base k C 9 "tupled" 1 (pureG (G_tupled 8))) (c_is_shift : Df P w K mg base k C
    12 "is_shift" 4 (pureG G_is_shift)) (c_shifted : Df P w K mg base k C 11 "shifted" 2 (pureG G_shifted)) (c_is_settled : Df P w K mg base k C 15 "is_settled" 3 (pureG G_is_settled)) : Df P w K mg base k C (15 + 1) "is_settling"
    4 (pureG G_is_settling) :=
  (df_of (N := N_is_settling) (lv := 15) (F := F_is_settling) Dd (C8.fnScope_by (by decide)) (by decide) fun f cdv A outer s H E hr => have nd : (N_is_settling).Nodup := by decide
    sb_cons (ss_if (et_not (et_val (ed_isi O "tuple" B.isinstance B.tuple (eb_var 3)))) (sb_one (ss_ret (ed_bl))) (sb_nil)) (sb_cons (ss_set 4 nd (ed_callP le c_tupled (hr.mono (by decide)) (ea_cons (ed_var 2) (ea_nil)))) (sb_cons
    (ss_for PassesOwn.never rfl (wi_seq (ed_var 3)) (gt_name 5 nd) (sb_cons (ss_if (et_not (et_val (ed_callP le c_is_shift (hr.mono (by decide)) (ea_cons (ed_var 0) (ea_cons (ed_var 1) (ea_cons (ed_var 4) (ea_cons (ed_var 5)
    (ea_nil)))))))) (sb_one (ss_ret (ed_bl))) (sb_nil)) (sb_one (ss_set 4 nd (ed_callP le c_shifted (hr.mono (by decide)) (ea_cons (ed_var 4) (ea_cons (ed_var 5) (ea_nil)))))))) (sb_one (ss_ret (ed_callP le c_is_settled (hr.mono
    (by decide)) (ea_cons (ed_var 0) (ea_cons (ed_var 1) (ea_cons (ed_var 4) (ea_nil)))))))))).pure

end
end MM
/-! D3 -/
namespace MM
open PySem PySem.Spec PyProof.Rows L2
section
variable {k : Kx} {C : Cell Unit} {P : Program} {w : World} {K : PySem.W.Frag} {mg : Str → Option Value} {base : Heap}
/-! ### _law_same -/
abbrev N__law_same : List Str := ["_law_got", "_law_due", "_law_like", "_law_mine", "_law_its"]
def F__law_same (G : List D → Option D) : FS Unit := seqS (sIf (tst (o1 (isiD ["list", "tuple"]) (xB 1))) (seqS (sIf (tst (o2 (eqD true) (o1 (isiD ["list"]) (xB 0)) (o1 (isiD ["list"]) (xB 1)))) (sRet (cB false)) (sNil)) (seqS
    (sIf (tst (o2 (eqD true) (o1 (isiD ["tuple"]) (xB 0)) (o1 (isiD ["tuple"]) (xB 1)))) (sRet (cB false)) (sNil)) (sRet (eAnd (o2 (eqD false) (o1 lenD (xB 0)) (o1 lenD (xB 1))) (o1 allD (oL (lcF (iZip (aC (xV 0) (aC (xV 1)
    (aN)))) (bd2 3 4) (ifT) (cP 2 G (aC (xV 3) (aC (xV 4) (aN)))) [3, 4]))))))) (sNil)) (seqS (sIf (tOr (isNo (xB 1)) (tst (o1 (isiD ["bool", "str"]) (xB 1)))) (seqS (sSet 2 (eAnd (o2 (eqD false) (o1 (isiD ["bool"]) (xB 0)) (o1
    (isiD ["bool"]) (xB 1))) (o2 (eqD false) (eIsNo (xB 0)) (eIsNo (xB 1))))) (sRet (eAnd (xV 2) (o2 (eqD false) (xB 0) (xB 1))))) (sNil)) (sRet (eAnd (o1 (isiD ["int"]) (xB 0)) (eAnd (eNot (o1 (isiD ["bool"]) (xB 0))) (o2 (eqD
    false) (xB 0) (xB 1))))))
theorem d__law_same (B : Bi mg) (Dd : Ds K mg "_law_same" (top 41) ["_law_got", "_law_due"]) {lv : Nat} {G : List D → Option D} (O : OqC K k.oc) (c__law_same : Df P w K mg base k C lv "_law_same" 2 (pureG G)) : Df P w K mg base k
    C (lv + 1) "_law_same" 2 (pureG fun ds => (runD 2 3 (F__law_same G) ds ()).map (·.1)) :=
  (df_of (N := N__law_same) (lv := lv) (F := F__law_same G) Dd (C8.fnScope_by (by decide)) (by decide) fun f cdv A outer s H E hr => have nd : (N__law_same).Nodup := by decide
    sb_cons (ss_if (et_val (ed_isi2 "list" "tuple" B.isinstance B.list B.tuple (eb_var 1))) (sb_cons (ss_if (et_cmp (op_neD hr.units) ok_ne (eb_of (ed_isi O "list" B.isinstance B.list (eb_var 0))) (eb_of (ed_isi O "list" B.isinstance
    B.list (eb_var 1)))) (sb_one (ss_ret (ed_bl))) (sb_nil)) (sb_cons (ss_if (et_cmp (op_neD hr.units) ok_ne (eb_of (ed_isi O "tuple" B.isinstance B.tuple (eb_var 0))) (eb_of (ed_isi O "tuple" B.isinstance B.tuple (eb_var 1))))
    (sb_one (ss_ret (ed_bl))) (sb_nil)) (sb_one (ss_ret (ed_and (ed_cmp (op_eqD hr.units) ok_eq (eb_of (ed_b1 call_len c_len B.len (by rfl) (eb_var 0))) (eb_of (ed_b1 call_len c_len B.len (by rfl) (eb_var 1)))) (ed_and1 (ed_b1
    (cr_all rfl) c_all B.all (by rfl) (eb_of (ed_ofL (el_lc [("_law_mine", 3), ("_law_its", 4)] rfl nd (wi_zip B.zip (ea_cons (ed_var 0) (ea_cons (ed_var 1) (ea_nil)))) (blkOk_by (by rfl)) (fun _ _ _ _ _ => gt_two 3 4 rfl nd) (fun
    _ _ _ _ _ => pts_t0) (fun _ _ _ _ _ => ed_callP le c__law_same hr (ea_cons (ed_var 3) (ea_cons (ed_var 4) (ea_nil)))))))))))))) (sb_nil)) (sb_cons (ss_if (et_w (ew_or (et_isN (eb_var 1)) (ew_one_or (et_val (ed_isi2 "bool"
    "str" B.isinstance B.bool B.str (eb_var 1)))))) (sb_cons (ss_set 2 nd (ed_and (ed_cmp (op_eqD hr.units) ok_eq (eb_of (ed_isi O "bool" B.isinstance B.bool (eb_var 0))) (eb_of (ed_isi O "bool" B.isinstance B.bool (eb_var 1))))
    (ed_and1 (ed_cmp (op_eqD hr.units) ok_eq (eb_of (ed_isN (eb_var 0))) (eb_of (ed_isN (eb_var 1))))))) (sb_one (ss_ret (ed_and (ed_var 2) (ed_and1 (ed_cmp (op_eqD hr.units) ok_eq (eb_var 0) (eb_var 1))))))) (sb_nil)) (sb_one
    (ss_ret (ed_and (ed_isi O "int" B.isinstance B.int (eb_var 0)) (ed_and (ed_not (ed_isi O "bool" B.isinstance B.bool (eb_var 0))) (ed_and1 (ed_cmp (op_eqD hr.units) ok_eq (eb_var 0) (eb_var 1))))))))).pure

def G__law_same : Nat → List D → Option D
  | 0 => fun _ => none
  | n + 1 => fun ds => (runD 2 3 (F__law_same (G__law_same n)) ds ()).map (·.1)
theorem c__law_same_at (O : OqC K k.oc) (B : Bi mg) (Dd : Ds K mg "_law_same" (top 41) ["_law_got", "_law_due"]) : ∀ n, Df P w K mg base k C (n + 1) "_law_same" 2 (pureG (G__law_same n))
  | 0 => df_none Dd rfl
  | n + 1 => d__law_same B Dd O (c__law_same_at O B Dd n)
/-! ### _law_lists -/
abbrev N__law_lists : List Str := ["_law_matter", "_law_bit"]
def F__law_lists (G : List D → Option D) : FS Unit := sRet (eIf (tst (o1 (isiD ["list", "tuple"]) (xB 0))) (oL (lcF (iSeq (xV 0)) (bd1 1) (ifT) (cP 1 G (aC (xV 1) (aN))) [1])) (xV 0))
theorem d__law_lists (B : Bi mg) (Dd : Ds K mg "_law_lists" (top 42) ["_law_matter"]) {lv : Nat} {G : List D → Option D} (c__law_lists : Df P w K mg base k C lv "_law_lists" 1 (pureG G)) : Df P w K mg base k C (lv + 1)
    "_law_lists" 1 (pureG fun ds => (runD 1 1 (F__law_lists G) ds ()).map (·.1)) :=
  (df_of (N := N__law_lists) (lv := lv) (F := F__law_lists G) Dd (C8.fnScope_by (by decide)) (by decide) fun f cdv A outer s H E hr => have nd : (N__law_lists).Nodup := by decide
    sb_one (ss_ret (ed_if (et_val (ed_isi2 "list" "tuple" B.isinstance B.list B.tuple (eb_var 0))) (ed_ofL (el_lc [("_law_bit", 1)] rfl nd (wi_seq (ed_var 0)) (blkOk_by (by rfl)) (fun _ _ _ _ _ => gt_name 1 nd) (fun _ _ _ _ _ =>
    pts_t0) (fun _ _ _ _ _ => ed_callP le c__law_lists hr (ea_cons (ed_var 1) (ea_nil))))) (ed_var 0)))).pure

def G__law_lists : Nat → List D → Option D
  | 0 => fun _ => none
  | n + 1 => fun ds => (runD 1 1 (F__law_lists (G__law_lists n)) ds ()).map (·.1)
theorem c__law_lists_at (B : Bi mg) (Dd : Ds K mg "_law_lists" (top 42) ["_law_matter"]) : ∀ n, Df P w K mg base k C (n + 1) "_law_lists" 1 (pureG (G__law_lists n))
  | 0 => df_none Dd rfl
  | n + 1 => d__law_lists B Dd (c__law_lists_at B Dd n)
/-! ### _law_half -/
abbrev N__law_half : List Str := ["_law_matter", "_law_bit"]
def F__law_half : FS Unit := sRet (tt1 lstD (oL (lcF (iSeq (xV 0)) (bd1 1) (ifT) (cP 1 (G__law_lists 8) (aC (xV 1) (aN))) [1])))
def G__law_half (ds : List D) : Option D := (runD 1 1 F__law_half ds ()).map (·.1)
theorem d__law_half (B : Bi mg) (Dd : Ds K mg "_law_half" (top 43) ["_law_matter"]) (c__law_lists : Df P w K mg base k C 9 "_law_lists" 1 (pureG (G__law_lists 8))) : Df P w K mg base k C (9 + 1) "_law_half" 1 (pureG G__law_half)
    :=
  (df_of (N := N__law_half) (lv := 9) (F := F__law_half) Dd (C8.fnScope_by (by decide)) (by decide) fun f cdv A outer s H E hr => have nd : (N__law_half).Nodup := by decide
    sb_one (ss_ret (ed_tt call_tupF c_tuple B.tuple (by rfl) (eb_of (ed_ofL (el_lc [("_law_bit", 1)] rfl nd (wi_seq (ed_var 0)) (blkOk_by (by rfl)) (fun _ _ _ _ _ => gt_name 1 nd) (fun _ _ _ _ _ => pts_t0) (fun _ _ _ _ _ => ed_callP
    le c__law_lists (hr.mono (by decide)) (ea_cons (ed_var 1) (ea_nil))))))))).pure

/-! ### _law_may -/
abbrev N__law_may : List Str := ["_law_web_here", "_law_row_so", "_law_tag", "_law_own"]
def F__law_may : FS Unit := sRet (oK (k1 lpD (oL (lcF (iSeq (xV 1)) (bd2 2 3) (ifT) (eTup (aC (xV 2) (aC (o2 idxK (oK (k1 tpD (o2 idxL (xB 0) (cI 1)))) (xB 3)) (aN)))) [2, 3]))))
def G__law_may (ds : List D) : Option D := (runD 2 2 F__law_may ds ()).map (·.1)
theorem d__law_may (B : Bi mg) (Dd : Ds K mg "_law_may" (top 46) ["_law_web_here", "_law_row_so"]) : Df P w K mg base k C (0 + 1) "_law_may" 2 (pureG G__law_may) :=
  (df_of (N := N__law_may) (lv := 0) (F := F__law_may) Dd (C8.fnScope_by (by decide)) (by decide) fun f cdv A outer s H E hr => have nd : (N__law_may).Nodup := by decide
    sb_one (ss_ret (ed_ofK (ek_t1 (call_dictP rfl) c_dictP B.dict (by rfl) (eb_of (ed_ofL (el_lc [("_law_tag", 2), ("_law_own", 3)] rfl nd (wi_seq (ed_var 1)) (blkOk_by (by rfl)) (fun _ _ _ _ _ => gt_two 2 3 rfl nd) (fun _ _ _ _ _ =>
    pts_t0) (fun _ _ _ _ _ => ed_tup (ea_cons (ed_var 2) (ea_cons (ed_dget (u1 hr.units) (eb_of (ed_ofK (ek_t1 (call_dictT rfl) c_dictT B.dict (by rfl) (eb_of (ed_ix ix_lt ok_ix (eb_var 0) (eb_of (ed_int))))))) (eb_var 3))
    (ea_nil))))))))))).pure

/-! ### _law_shifts -/
abbrev N__law_shifts : List Str := ["_law_row_so", "_law_may_so", "_law_seats_so", "_law_tag", "_law_names_so", "_law_here_so", "_law_found", "_law_new_so", "_law_later_so", "_law_way_so", "_law_own", "_law_there_so", "_law_far"]
def F__law_shifts : FS Unit := seqS (sPar3 5 6 7 (vD (oK (k1 tpD (xB 2)))) (vL (lLst (aN))) (vD (oL (lcF (iSeq (o2 idxK (xB 1) (xB 3))) (bd1 12) (ifT) (eTup (aC (xV 3) (aC (xV 12) (aN)))) [12])))) (seqS (sLc 4 (lcF (iSeq (xV 0))
    (bd1 10) (ifT) (o2 idxL (xB 10) (cI 0)) [10])) (seqS (sIf (tst (o2 (inD false) (xB 3) (oL (lVals (k1 dctD (xB 5)))))) (sRet (oL (lLst (aN)))) (sNil)) (seqS (sWh 1000 (tst (o2 (eqD true) (xB 7) (oL (lLst (aN))))) (seqS (sSet 8
    (oL (lLst (aN)))) (seqS (sFor (iSeq (xV 7)) (bd1 9) (seqS (sSet 11 (o2 (getK .non) (xB 5) (o2 idxL (xB 9) (eNeg (cI 1))))) (seqS (sIf (tOr (isNo (xB 11)) (tst (o2 (iB fun i j => decide (j < i)) (o2 indexD (xB 4) (xB 11)) (o2
    indexD (xB 4) (xB 3))))) (sApp 6 (xV 9)) (sNil)) (sIf (notNo (xB 11)) (sSet 8 (oL (l2 catL (xB 8) (oL (lcF (iSeq (o2 idxK (xB 1) (xB 11))) (bd1 12) (tst (o2 (inD true) (xB 12) (stpT (xB 9) (pS (cI 1)) 2))) (o2 catT (xB 9)
    (eTup (aC (xV 11) (aC (xV 12) (aN))))) [12]))))) (sNil))))) (sSet 7 (xV 8))))) (sRet (oL (sSeq (xB 6)))))))
def G__law_shifts (ds : List D) : Option D := (runD 4 9 F__law_shifts ds ()).map (·.1)
theorem d__law_shifts (B : Bi mg) (Dd : Ds K mg "_law_shifts" (top 48) ["_law_row_so", "_law_may_so", "_law_seats_so", "_law_tag"]) : Df P w K mg base k C (0 + 1) "_law_shifts" 4 (pureG G__law_shifts) :=
  (df_of (N := N__law_shifts) (lv := 0) (F := F__law_shifts) Dd (C8.fnScope_by (by decide)) (by decide) fun f cdv A outer s H E hr => have nd : (N__law_shifts).Nodup := by decide
    sb_cons (ss_par3 5 6 7 rfl nd (ev_val (ed_ofK (ek_t1 (call_dictT rfl) c_dictT B.dict (by rfl) (eb_var 2)))) (ev_L (el_lst (ea_nil))) (ev_val (ed_ofL (el_lc [("_law_far", 12)] rfl nd (wi_seq (ed_dget (u1 hr.units) (eb_var 1)
    (eb_var 3))) (blkOk_by (by rfl)) (fun _ _ _ _ _ => gt_name 12 nd) (fun _ _ _ _ _ => pts_t0) (fun _ _ _ _ _ => ed_tup (ea_cons (ed_var 3) (ea_cons (ed_var 12) (ea_nil)))))))) (sb_cons (ss_lc [("_law_own", 10)] 4 rfl nd (wi_seq
    (ed_var 0)) (blkOk_by (by rfl)) (fun _ _ _ _ _ => gt_name 10 nd) (fun _ _ _ _ _ => pts_t0) (fun _ _ _ _ _ => ed_ix ix_lt ok_ix (eb_var 10) (eb_of (ed_int))) (by rfl)) (sb_cons (ss_if (et_cmp op_in_seq ok_in (eb_var 3) (eb_of
    (ed_ofL (el_listVals rfl B.list (vw_vals (eb_var 5)))))) (sb_one (ss_ret (ed_ofL (el_lst (ea_nil))))) (sb_nil)) (sb_cons (ss_while 1000 PassesOwn.never (et_cmp (op_neD hr.units) ok_ne (eb_var 7) (eb_of (ed_ofL (el_lst
    (ea_nil))))) (sb_cons (ss_set 8 nd (ed_ofL (el_lst (ea_nil)))) (sb_cons (ss_for PassesOwn.never rfl (wi_seq (ed_var 7)) (gt_name 9 nd) (sb_cons (ss_set 11 nd (ed_get1 (u1 hr.units) (eb_var 5) (eb_of (ed_ix ix_lt ok_ix (eb_var
    9) (eb_of (ed_neg (eb_of (ed_int)))))))) (sb_cons (ss_if (et_w (ew_or (et_isN (eb_var 11)) (ew_one_or (et_cmp op_gt ok_B (eb_of (ed_index (eb_var 4) (eb_var 11))) (eb_of (ed_index (eb_var 4) (eb_var 3))))))) (sb_one (ss_app 6
    (ed_var 9))) (sb_nil)) (sb_one (ss_if (et_notN (eb_var 11)) (sb_one (ss_set 8 nd (ed_ofL (el_cat (eb_var 8) (eb_of (ed_ofL (el_lc [("_law_far", 12)] rfl nd (wi_seq (ed_dget (u1 hr.units) (eb_var 1) (eb_var 11))) (blkOk_by (by
    rfl)) (fun _ _ _ _ _ => gt_name 12 nd) (fun _ _ _ _ _ => pts_t1 (et_cmp op_notIn_seq ok_in (eb_var 12) (eb_of (ed_step (st := 2) pe_int (eb_var 9) (eo_some (ed_int)))))) (fun _ _ _ _ _ => ed_catT (eb_var 9) (eb_of (ed_tup
    (ea_cons (ed_var 11) (ea_cons (ed_var 12) (ea_nil))))))))))))) (sb_nil)))))) (sb_one (ss_set 7 nd (ed_var 8)))))) (sb_one (ss_ret (ed_ofL (el_sorted hr.units B.sorted (eb_var 6))))))))).pure

/-! ### _law_kit -/
abbrev N__law_kit : List Str := []
def F__law_kit : FS Unit := sRet (eTup (aC (eTup (aC (cS "p") (aC (cS "q") (aN)))) (aC (eTup (aC (eTup (aC (cS "a") (aC (eTup (aC (cS "p") (aN))) (aN)))) (aC (eTup (aC (cS "b") (aC (eTup (aC (cS "p") (aC (cS "q") (aN)))) (aN))))
    (aN)))) (aN))))
def G__law_kit (ds : List D) : Option D := (runD 0 0 F__law_kit ds ()).map (·.1)
theorem d__law_kit (B : Bi mg) (Dd : Ds K mg "_law_kit" (top 49) []) : Df P w K mg base k C (0 + 1) "_law_kit" 0 (pureG G__law_kit) :=
  (df_of (N := N__law_kit) (lv := 0) (F := F__law_kit) Dd (C8.fnScope_by (by decide)) (by decide) fun f cdv A outer s H E hr => have nd : (N__law_kit).Nodup := by decide
    sb_one (ss_ret (ed_tup (ea_cons (ed_tup (ea_cons (ed_str) (ea_cons (ed_str) (ea_nil)))) (ea_cons (ed_tup (ea_cons (ed_tup (ea_cons (ed_str) (ea_cons (ed_tup (ea_cons (ed_str) (ea_nil))) (ea_nil)))) (ea_cons (ed_tup (ea_cons
    (ed_str) (ea_cons (ed_tup (ea_cons (ed_str) (ea_cons (ed_str) (ea_nil)))) (ea_nil)))) (ea_nil)))) (ea_nil)))))).pure

/-! ### _law_is -/
abbrev N__law_is : List Str := ["_law_row_so", "_law_may_so", "_law_seats_so", "_law_way_so", "_law_last_so", "_law_here_so", "_law_names_so", "_law_movers_so", "_law_spots_so", "_law_k", "_law_tag", "_law_own"]
def F__law_is : FS Unit := seqS (sUnp (bd2 5 6) (eTup (aC (oK (k1 tpD (xB 2))) (aC (oL (lcF (iSeq (xV 0)) (bd1 11) (ifT) (o2 idxL (xB 11) (cI 0)) [11])) (aN))))) (seqS (sPar2 7 8 (vD (stpT (xB 3) (pN) 2)) (vD (stpT (xB 3) (pS (cI
    1)) 2))) (seqS (sIf (tOr (tst (o2 (eqD false) (o1 lenD (xB 3)) (cI 0))) (tOr (tst (o2 (eqD true) (o2 (iI modI) (o1 lenD (xB 3)) (cI 2)) (cI 0))) (tst (o2 (eqD true) (oL (lcF (iSeq (xV 7)) (bd1 10) (tst (o2 (inD true) (xB 10)
    (xB 6))) (xV 10) [10])) (oL (lLst (aN))))))) (sRet (cB false)) (sNil)) (seqS (sIf (tOr (tst (o2 (eqD true) (o1 lenSet (xB 7)) (o1 lenD (xB 7)))) (tst (o2 (eqD true) (o1 lenSet (xB 8)) (o1 lenD (xB 8))))) (sRet (cB false))
    (sNil)) (seqS (sIf (tst (o2 (inD false) (o2 idxL (xB 7) (cI 0)) (oL (lVals (k1 dctD (xB 5)))))) (sRet (cB false)) (sNil)) (seqS (sFor (iEnu (xV 7)) (bd2 9 10) (sIf (tOr (tst (o2 (inD true) (o2 idxL (xB 8) (xB 9)) (o2 idxK (xB
    1) (xB 10)))) (tAnd (tst (o2 (iB fun i j => decide (j < i)) (xB 9) (cI 0))) (tst (o2 (eqD true) (o2 (getK .non) (xB 5) (o2 idxL (xB 8) (o2 (iI fun i j => some (i - j)) (xB 9) (cI 1)))) (xB 10))))) (sRet (cB false)) (sNil)))
    (seqS (sSet 4 (o2 (getK .non) (xB 5) (o2 idxL (xB 8) (eNeg (cI 1))))) (sRet (eOr (eIsNo (xB 4)) (o2 (iB fun i j => decide (j < i)) (o2 indexD (xB 6) (xB 4)) (o2 indexD (xB 6) (o2 idxL (xB 7) (cI 0))))))))))))
def G__law_is (ds : List D) : Option D := (runD 4 8 F__law_is ds ()).map (·.1)
theorem d__law_is (B : Bi mg) (Dd : Ds K mg "_law_is" (top 50) ["_law_row_so", "_law_may_so", "_law_seats_so", "_law_way_so"]) : Df P w K mg base k C (0 + 1) "_law_is" 4 (pureG G__law_is) :=
  (df_of (N := N__law_is) (lv := 0) (F := F__law_is) Dd (C8.fnScope_by (by decide)) (by decide) fun f cdv A outer s H E hr => have nd : (N__law_is).Nodup := by decide
    sb_cons (ss_unp (ed_tup (ea_cons (ed_ofK (ek_t1 (call_dictT rfl) c_dictT B.dict (by rfl) (eb_var 2))) (ea_cons (ed_ofL (el_lc [("_law_own", 11)] rfl nd (wi_seq (ed_var 0)) (blkOk_by (by rfl)) (fun _ _ _ _ _ => gt_name 11 nd) (fun
    _ _ _ _ _ => pts_t0) (fun _ _ _ _ _ => ed_ix ix_lt ok_ix (eb_var 11) (eb_of (ed_int))))) (ea_nil)))) (gt_two 5 6 rfl nd)) (sb_cons (ss_par2 7 8 rfl nd (ev_val (ed_step (st := 2) pe_int (eb_var 3) (eo_none))) (ev_val (ed_step
    (st := 2) pe_int (eb_var 3) (eo_some (ed_int))))) (sb_cons (ss_if (et_w (ew_or (et_cmp (op_eqD hr.units) ok_eq (eb_of (ed_b1 call_len c_len B.len (by rfl) (eb_var 3))) (eb_of (ed_int))) (ew_or (et_cmp (op_neD hr.units) ok_ne
    (eb_of (ed_op op_mod ok_mod (eb_of (ed_b1 call_len c_len B.len (by rfl) (eb_var 3))) (eb_of (ed_int)))) (eb_of (ed_int))) (ew_one_or (et_cmp (op_neD hr.units) ok_ne (eb_of (ed_ofL (el_lc [("_law_tag", 10)] rfl nd (wi_seq
    (ed_var 7)) (blkOk_by (by rfl)) (fun _ _ _ _ _ => gt_name 10 nd) (fun _ _ _ _ _ => pts_t1 (et_cmp op_notIn_seq ok_in (eb_var 10) (eb_var 6))) (fun _ _ _ _ _ => ed_var 10)))) (eb_of (ed_ofL (el_lst (ea_nil))))))))) (sb_one
    (ss_ret (ed_bl))) (sb_nil)) (sb_cons (ss_if (et_w (ew_or (et_cmp (op_neD hr.units) ok_ne (eb_of (ed_lenset rfl B.len B.set (eb_var 7))) (eb_of (ed_b1 call_len c_len B.len (by rfl) (eb_var 7)))) (ew_one_or (et_cmp (op_neD
    hr.units) ok_ne (eb_of (ed_lenset rfl B.len B.set (eb_var 8))) (eb_of (ed_b1 call_len c_len B.len (by rfl) (eb_var 8))))))) (sb_one (ss_ret (ed_bl))) (sb_nil)) (sb_cons (ss_if (et_cmp op_in_seq ok_in (eb_of (ed_ix ix_lt ok_ix
    (eb_var 7) (eb_of (ed_int)))) (eb_of (ed_ofL (el_listVals rfl B.list (vw_vals (eb_var 5)))))) (sb_one (ss_ret (ed_bl))) (sb_nil)) (sb_cons (ss_for PassesOwn.never rfl (wi_enum B.enumerate (ed_var 7)) (gt_two 9 10 rfl nd)
    (sb_one (ss_if (et_w (ew_or (et_cmp op_notIn_seq ok_in (eb_of (ed_ix ix_lt ok_ix (eb_var 8) (eb_var 9))) (eb_of (ed_dget (u1 hr.units) (eb_var 1) (eb_var 10)))) (ew_one_or (et_w (ew_and (et_cmp op_gt ok_B (eb_var 9) (eb_of
    (ed_int))) (ew_one_and (et_cmp (op_neD hr.units) ok_ne (eb_of (ed_get1 (u1 hr.units) (eb_var 5) (eb_of (ed_ix ix_lt ok_ix (eb_var 8) (eb_of (ed_op op_sub ok_I0 (eb_var 9) (eb_of (ed_int)))))))) (eb_var 10)))))))) (sb_one
    (ss_ret (ed_bl))) (sb_nil)))) (sb_cons (ss_set 4 nd (ed_get1 (u1 hr.units) (eb_var 5) (eb_of (ed_ix ix_lt ok_ix (eb_var 8) (eb_of (ed_neg (eb_of (ed_int)))))))) (sb_one (ss_ret (ed_or (ed_isN (eb_var 4)) (ed_or1 (ed_cmp op_gt
    ok_B (eb_of (ed_index (eb_var 6) (eb_var 4))) (eb_of (ed_index (eb_var 6) (eb_of (ed_ix ix_lt ok_ix (eb_var 7) (eb_of (ed_int)))))))))))))))))).pure

/-! ### _law_moved -/
abbrev N__law_moved : List Str := ["_law_seats_so", "_law_way_so", "_law_here_so", "_law_k", "_law_far"]
def F__law_moved : FS Unit := seqS (sSetK 2 (k1 tpD (xB 0))) (seqS (sFor (iRng3 (aC (cI 0) (aC (o1 lenD (xB 1)) (aC (cI 2) (aN))))) (bd1 3) (sPut 2 (o2 idxL (xB 1) (o2 (iI fun i j => some (i + j)) (xB 3) (cI 1))) (o2 idxL (xB 1)
    (xB 3)))) (sRet (tt1 lstD (oL (sSeq (oL (fun ρ => lft (lkF 2 4 ρ))))))))
def G__law_moved (ds : List D) : Option D := (runD 2 3 F__law_moved ds ()).map (·.1)
theorem d__law_moved (B : Bi mg) (Dd : Ds K mg "_law_moved" (top 51) ["_law_seats_so", "_law_way_so"]) : Df P w K mg base k C (0 + 1) "_law_moved" 2 (pureG G__law_moved) :=
  (df_of (N := N__law_moved) (lv := 0) (F := F__law_moved) Dd (C8.fnScope_by (by decide)) (by decide) fun f cdv A outer s H E hr => have nd : (N__law_moved).Nodup := by decide
    sb_cons (ss_setK 2 nd (ek_t1 (call_dictT rfl) c_dictT B.dict (by rfl) (eb_var 0))) (sb_cons (ss_for PassesOwn.never rfl (wi_range3 B.range (ea_cons (ed_int) (ea_cons (ed_b1 call_len c_len B.len (by rfl) (eb_var 1)) (ea_cons
    (ed_int) (ea_nil))))) (gt_name 3 nd) (sb_one (ss_dput 2 (u1 hr.units) (ed_ix ix_lt ok_ix (eb_var 1) (eb_of (ed_op op_add ok_I0 (eb_var 3) (eb_of (ed_int))))) (ed_ix ix_lt ok_ix (eb_var 1) (eb_var 3))))) (sb_one (ss_ret (ed_tt
    call_tupF c_tuple B.tuple (by rfl) (eb_of (ed_ofL (el_sorted hr.units B.sorted (eb_of (ed_ofL (el_lcKeys 2 4 [("_law_far", 4)] rfl (by decide) hr.units rfl nd rfl rfl (.inr (.inl rfl)) (by decide) (by decide) (blkOk_by (by
    rfl)) (fun _ _ _ _ _ => pg_name (i := 4) nd rfl (.inl rfl) (.inr rfl)) (fun _ _ _ _ _ => pe_tupF (pa_cons (pe_var (i := 4) rfl (.inl rfl)) (pa_cons (pe_dget (u1 hr.units) (pe_var (i := 2) rfl (.inr (.inl rfl))) (pe_var (i :=
    4) rfl (.inl rfl)) (fun _ _ => rfl)) pa_nil rfl) rfl))))))))))))).pure

/-! ### _law_shows -/
abbrev N__law_shows : List Str := ["_law_web_here", "_law_row_so", "_law_seats_so", "_law_rows_so", "_law_way_so", "_law_may_so", "_law_here_so", "_law_bit", "_law_tag", "_law_own"]
def F__law_shows : FS Unit := seqS (sUnp (bd2 5 6) (eTup (aC (cP 2 G__law_may (aC (xV 0) (aC (xV 1) (aN)))) (aC (xV 2) (aN))))) (seqS (sIf (tNot (tst (o1 (isiD ["tuple"]) (xB 3)))) (sRet (cB false)) (sNil)) (seqS (sFor (iSeq (xV
    3)) (bd1 4) (seqS (sIf (tNot (tst (o1 (isiD ["tuple"]) (xB 4)))) (sRet (cB false)) (sNil)) (seqS (sIf (tst (o2 (eqD true) (oL (lcF (iSeq (xV 4)) (bd1 7) (tNot (tst (o1 (isiD ["str"]) (xB 7)))) (xV 7) [7])) (oL (lLst (aN)))))
    (sRet (cB false)) (sNil)) (seqS (sIf (tNot (tst (cP 4 G__law_is (aC (xV 1) (aC (xV 5) (aC (xV 6) (aC (xV 4) (aN)))))))) (sRet (cB false)) (sNil)) (sSet 6 (cP 2 G__law_moved (aC (xV 6) (aC (xV 4) (aN))))))))) (sRet (o2 (eqD
    false) (oL (lcF (iSeq (xV 1)) (bd2 8 9) (tst (o2 (eqD true) (cP 4 G__law_shifts (aC (xV 1) (aC (xV 5) (aC (xV 6) (aC (xV 8) (aN)))))) (oL (lLst (aN))))) (xV 8) [8, 9])) (oL (lLst (aN)))))))
def G__law_shows (ds : List D) : Option D := (runD 4 6 F__law_shows ds ()).map (·.1)
theorem d__law_shows (B : Bi mg) (Dd : Ds K mg "_law_shows" (top 52) ["_law_web_here", "_law_row_so", "_law_seats_so", "_law_rows_so"]) (O : OqC K k.oc) (c__law_may : Df P w K mg base k C 1 "_law_may" 2 (pureG G__law_may))
    (c__law_is : Df P w K mg base k C 1 "_law_is" 4 (pureG G__law_is)) (c__law_moved : Df P w K mg base k C 1 "_law_moved" 2 (pureG G__law_moved)) (c__law_shifts : Df P w K mg base k C 1 "_law_shifts" 4 (pureG G__law_shifts)) : Df
    P w K mg base k C (1 + 1) "_law_shows" 4 (pureG G__law_shows) :=
  (df_of (N := N__law_shows) (lv := 1) (F := F__law_shows) Dd (C8.fnScope_by (by decide)) (by decide) fun f cdv A outer s H E hr => have nd : (N__law_shows).Nodup := by decide
    sb_cons (ss_unp (ed_tup (ea_cons (ed_callP le c__law_may (hr.mono (by decide)) (ea_cons (ed_var 0) (ea_cons (ed_var 1) (ea_nil)))) (ea_cons (ed_var 2) (ea_nil)))) (gt_two 5 6 rfl nd)) (sb_cons (ss_if (et_not (et_val (ed_isi O
    "tuple" B.isinstance B.tuple (eb_var 3)))) (sb_one (ss_ret (ed_bl))) (sb_nil)) (sb_cons (ss_for PassesOwn.never rfl (wi_seq (ed_var 3)) (gt_name 4 nd) (sb_cons (ss_if (et_not (et_val (ed_isi O "tuple" B.isinstance B.tuple
    (eb_var 4)))) (sb_one (ss_ret (ed_bl))) (sb_nil)) (sb_cons (ss_if (et_cmp (op_neD hr.units) ok_ne (eb_of (ed_ofL (el_lc [("_law_bit", 7)] rfl nd (wi_seq (ed_var 4)) (blkOk_by (by rfl)) (fun _ _ _ _ _ => gt_name 7 nd) (fun _ _
    _ _ _ => pts_t1 (et_not (et_val (ed_isi O "str" B.isinstance B.str (eb_var 7))))) (fun _ _ _ _ _ => ed_var 7)))) (eb_of (ed_ofL (el_lst (ea_nil))))) (sb_one (ss_ret (ed_bl))) (sb_nil)) (sb_cons (ss_if (et_not (et_val (ed_callP
    le c__law_is (hr.mono (by decide)) (ea_cons (ed_var 1) (ea_cons (ed_var 5) (ea_cons (ed_var 6) (ea_cons (ed_var 4) (ea_nil)))))))) (sb_one (ss_ret (ed_bl))) (sb_nil)) (sb_one (ss_set 6 nd (ed_callP le c__law_moved (hr.mono (by
    decide)) (ea_cons (ed_var 6) (ea_cons (ed_var 4) (ea_nil)))))))))) (sb_one (ss_ret (ed_cmp (op_eqD hr.units) ok_eq (eb_of (ed_ofL (el_lc [("_law_tag", 8), ("_law_own", 9)] rfl nd (wi_seq (ed_var 1)) (blkOk_by (by rfl)) (fun _
    _ _ _ _ => gt_two 8 9 rfl nd) (fun _ _ _ _ _ => pts_t1 (et_cmp (op_neD hr.units) ok_ne (eb_of (ed_callP le c__law_shifts (hr.mono (by decide)) (ea_cons (ed_var 1) (ea_cons (ed_var 5) (ea_cons (ed_var 6) (ea_cons (ed_var 8)
    (ea_nil))))))) (eb_of (ed_ofL (el_lst (ea_nil)))))) (fun _ _ _ _ _ => ed_var 8)))) (eb_of (ed_ofL (el_lst (ea_nil)))))))))).pure

end
end MM
/-! D4 -/
namespace MM
open PySem PySem.Spec PyProof.Rows L2
/-! ## the draws' list -/
abbrev Tub := Int × Int × Int
def tub3 (t : Tub) : List V := [.int t.1, .int t.2.1, .int t.2.2]
def tubN : Nat → Tub → Int
  | 0, t => t.1
  | 1, t => t.2.1
  | _, t => t.2.2
def tubS : Nat → Int → Tub → Tub
  | 0, i, t => (i, t.2)
  | 1, i, t => (t.1, i, t.2.2)
  | _, i, t => (t.1, t.2.1, i)
def Ct (C : Cell Unit) (pt : Addr) : Cell Tub where
  mu := fun a => a = pt ∨ C.mu a
  rep := fun t H => C.rep () H ∧ H pt = some (.lst (tub3 t))
  stay := fun t H H' h q => ⟨C.stay () H H' h.1 fun a o e z => q a o e (z.imp .inr id), q _ _ h.2 (.inl (.inl rfl))⟩
theorem ct_le {C : Cell Unit} {pt : Addr} (hn : ¬ C.mu pt) : CellLe C (Ct C pt) where
  mu := fun _ h => .inr h
  rep := fun _ _ h => h.1
  tb := fun a h => h.elim (fun e => .inr fun t H ps r z => by rw [e, r.2] at z; cases z) .inl
  back := fun t H H' h r q => ⟨r, q _ _ h.2 hn⟩
section
variable {k : Kx} {C : Cell Unit} {X : Cx} {pos p p2 : Pos} {a : Expr} {fa : Env → M Tub D}
def isTub (i : Nat) (ρ : Env) : Bool := match ρ[i]? with
  | some (some (.val .tub)) => true
  | _ => false
theorem isTub_ok {i : Nat} {ρ : Env} (h : isTub i ρ = true) : ρ[i]? = some (some (.val .tub)) := by
  unfold isTub at h
  split at h
  · next e => exact e
  · cases h
def tbG (i j : Nat) : Env → M Tub D := fun ρ t => if isTub i ρ then some (.int (tubN j t), t) else none
theorem tub_set {j : Nat} (hj : j < 3) (m : Int) (t : Tub) : (tub3 t).set j (.int m) = tub3 (tubS j m t) := by
  match j, hj with
  | 0, _ => rfl
  | 1, _ => rfl
  | 2, _ => rfl
theorem tub_ix {j : Nat} (hj : j < 3) (t : Tub) : ixN (tub3 t).length (j : Int) = some j := by
  match j, hj with
  | 0, _ => rfl
  | 1, _ => rfl
  | 2, _ => rfl
theorem tub_at {j : Nat} (hj : j < 3) (t : Tub) : L2.atI (tub3 t) (j : Int) = some (.int (tubN j t)) := by
  match j, hj with
  | 0, _ => rfl
  | 1, _ => rfl
  | 2, _ => rfl
theorem ed_tub (i j : Nat) {x : Str} {z : Int} {q1 q2} (hj : j < 3 := by decide) (hz : z = (j : Int) := by rfl) (hN : X.N[i]? = some x := by rfl) (hv : Vis X.env.scope x := by first | exact Or.inl rfl | exact Or.inr (Or.inl rfl) | exact Or.inr (Or.inr rfl)) (hd : (x == ("__debug__" : Str)) = false := by decide)
    (hcd : (x == ("__classdict__" : Str)) = false := by decide) : ED k (Ct C k.pt) X (.Subscript (.Name x p) (.Constant (.int z) q1 q2) pos) (tbG i j) :=
  pe_imp (pe_ix ix_list (pe_var hN hv hd hcd) pe_int (fun _ _ => rfl)) fun σ H Q ⟨E0, En, H0, ρ, t, d, t', R, ev, q⟩ => by
  unfold tbG at ev
  split at ev
  · next h =>
    cases ev
    obtain ⟨_, h1, v, rfl, r⟩ := slot_at R (isTub_ok h)
    cases r
    subst hz
    exact ⟨_, h1, k.pt, tub3 t, j, _, rfl, rfl, .of R.rep.2, tub_at hj t, q _ _ _ R Go.refl (.int _)⟩
  · cases ev
def tbS (i j : Nat) (f : Env → M Tub D) : FS Tub := fun ρ => bnd (f ρ) fun d t => match d with
  | .int z => if isTub i ρ then some (.nx ρ, tubS j z t) else none
  | _ => none
theorem ss_tub (i j : Nat) {x : Str} {z : Int} {q1 q2} (ha : ED k (Ct C k.pt) X a fa) (hn : ¬ C.mu k.pt) (hj : j < 3 := by decide) (hz : z = (j : Int) := by rfl) (hN : X.N[i]? = some x := by rfl) (hv : Vis X.env.scope x := by first | exact Or.inl rfl | exact Or.inr (Or.inl rfl) | exact Or.inr (Or.inr rfl)) (hd : (x == ("__debug__" : Str)) = false := by decide)
    (hcd : (x == ("__classdict__" : Str)) = false := by decide) (hs : swapsWithSole [.Subscript (.Name x p) (.Constant (.int z) q1 q2) p2] a pos.line X.env = pure false := by rfl) (hw : swappedStores [.Subscript (.Name x p) (.Constant (.int z) q1 q2) p2] a X.env = pure none := by rfl)
    (h1 : (assignEach [.Subscript (.Name x p) (.Constant (.int z) q1 q2) p2] X.env).map (·.2) = [assign (.Subscript (.Name x p) (.Constant (.int z) q1 q2) p2) X.env] := by rfl) :
    SS k (Ct C k.pt) X (.Assign [.Subscript (.Name x p) (.Constant (.int z) q1 q2) p2] a pos) (tbS i j fa) :=
  ps_imp (ps_asg ha (pg_sub (pe_var hN hv hd hcd) pe_int set_list) hs hw h1) fun N σ H ⟨E0, En, H0, ρ, t, o, t', R, ev, q⟩ => by
  obtain ⟨d, t1, e1, ev1⟩ := bnd_some ev
  split at ev1
  · next m =>
    split at ev1
    · next h =>
      cases ev1
      refine ⟨E0, En, H0, ρ, t, .int m, t1, R, e1, fun H1 H1' v R1 g1 r1 => ?_⟩
      obtain ⟨_, s1, v, rfl, r⟩ := slot_at R1 (isTub_ok h)
      cases r
      cases r1
      subst hz
      have hp := R1.rep.2
      have hp0 := (R1.nomut (a := k.pt) (.inl rfl)).1
      refine ⟨_, s1, k.pt, tub3 t1, j, j, rfl, rfl, hp, tub_ix hj t1, ?_⟩
      · rw [tub_set hj]
        have g : Go (Ct C k.pt) H1 H1' H1 (upd H1' k.pt (.lst (tub3 (tubS j m t1)))) := ⟨Same.refl _, fun a o e n => by
            rw [upd_ne (fun z => n (.inl z))]; exact e, fun _ _ n => n, fun a z => by
            by_cases ha : a = k.pt
            · rw [ha, upd_same] at z; cases z
            · rw [upd_ne ha] at z; exact z, fun a ps z => by
            by_cases ha : a = k.pt
            · rw [ha, upd_same] at z; cases z
            · rw [upd_ne ha] at z; exact .inl ⟨ps, z⟩⟩
        refine q _ _ _ (R1.step g (fun a o e => ?_) ⟨C.stay () _ _ R1.rep.1 fun a o e z => ?_, upd_same⟩) g1.base
        · rw [upd_ne (fun z => by rw [z, hp0] at e; cases e)]; exact R1.sub _ _ e
        · rw [upd_ne (fun w => ?_)]
          · exact e
          · rw [w] at e z
            rw [hp] at e
            cases e
            rcases z with z | z
            · exact hn z
            · exact z trivial
    · cases ev1
  · cases ev1
end
/-- a, b = x, y by a tuple: the names are cells -/
theorem ss_parU2 {T : Type} {k : Kx} {C : Cell T} {X : Cx} {a b : Expr} {pos : Pos} (i j : Nat) {x y : Str} {px py pt : Pos} {kt k2 pt2} {fa fb : Env → M T SV} (hc : X.calm = true) (hN : X.N.Nodup) (ha : EV k C X a fa) (hb : EV k C X b fb)
    (hi : X.N[i]? = some x := by rfl) (hj : X.N[j]? = some y := by rfl)
    (hx : Loc X.env.scope x := by first | exact Or.inl rfl | exact Or.inr rfl) (hy : Loc X.env.scope y := by first | exact Or.inl rfl | exact Or.inr rfl)
    (hfx : X.fn x = true ∨ X.env.scope.names.lookup x = some .local := by first | exact .inl rfl | exact .inr rfl | assumption) (hfy : X.fn y = true ∨ X.env.scope.names.lookup y = some .local := by first | exact .inl rfl | exact .inr rfl | assumption)
    (hw : swappedStores [.Tuple [.Name x px, .Name y py] kt pt] (.Tuple [a, b] k2 pt2) X.env = pure none := by rfl)
    (hs : swapsWithSole [.Tuple [.Name x px, .Name y py] kt pt] (.Tuple [a, b] k2 pt2) pos.line X.env = pure false := by rfl)
    (h1 : (assignEach [.Tuple [.Name x px, .Name y py] kt pt] X.env).map (·.2) = [assign (.Tuple [.Name x px, .Name y py] kt pt) X.env] := by rfl)
    (hs1 : starEach (a :: [b]) X.env = (false, eval a X.env) :: starEach [b] X.env := by rfl) (hs2 : starEach (b :: []) X.env = (false, eval b X.env) :: starEach [] X.env := by rfl) :
    SS k C X (.Assign [.Tuple [.Name x px, .Name y py] kt pt] (.Tuple [a, b] k2 pt2) pos) (fun ρ => bnd (fa ρ) fun s1 => bnd (fb ρ) fun s2 => ret (.nx ((ρ.set i (some s1)).set j (some s2)))) :=
  ps_imp (ps_asg (pe_tupF (pa_cons ha (pa_cons hb pa_nil hs2) hs1)) (pg_tup hc (pgs_cons (pg_name (X := X) hN hi hx hfx) (pgs_cons (pg_name (X := X) hN hj hy hfy) pgs_nil))) hs hw h1) fun N σ H ⟨E0, En, H0, ρ, t, o, t', R, ev, q⟩ => by
  obtain ⟨s1, t1, e1, ev1⟩ := bnd_some ev
  obtain ⟨s2, t2, e2, ev2⟩ := bnd_some ev1
  obtain ⟨rfl, rfl⟩ := ret_some ev2
  refine ⟨E0, En, H0, ρ, t, s1, t1, R, e1, fun H1 H1' v1 R1 g1 n1 => ⟨E0, En, H1, ρ, t1, s2, _, R1, e2, fun H2 H2' v2 R2 g2 n2 => ⟨by show 2 ≤ sizeLine; decide, fun p o hp hd => ?_⟩⟩⟩
  obtain ⟨R2', g3⟩ := R2.newO (.frz o (.tup [v1, v2])) hp
  refine ⟨p, [v1, v2], rfl, .inl (.inr ⟨o, upd_same⟩), rfl, v1, [v2], rfl, v2, [], rfl, rfl, ?_⟩
  have n1' := (n1.go R1 (fun p h => R.go.trk p h) g2).go R2 (fun p h => R.go.trk p h) g3
  have n2' := n2.go R2 (fun p h => R1.go.trk p h) g3
  have old : ∀ j p, H p = none → ¬ Owns σ ρ j p := fun j p h => own_lt R h
  have R3 := R2'.put i (n1'.put (fun p h => R.go.trk p h) fun p _ h j => old j p h)
  have R4 := R3.put j (n2'.put (fun p h => R1.go.trk p h) fun p e h m o => by
    rcases owns_set o with ⟨_, ev, es⟩ | ⟨_, o⟩
    · obtain ⟨p', u, e', _, hu⟩ := n1.at es
      rw [ev] at e'
      cases e'
      rw [h] at hu
      cases hu
    · exact old m p (g1.trk p h) o)
  exact q _ _ _ R4 (g1.trans (g2.trans g3)).base
/-! ### one def, many promises -/
structure DfA {ι : Type} (P : Program) (w : World) (K : PySem.W.Frag) (mg : Str → Option Value) (base : Heap) (lv : Nat) (x : Str) (sp : ι → Sp) : Prop where
  ex : ∃ f fd ps, (∀ i, FnOk P w K mg base CX0 lv f fd ps (sp i)) ∧ mg x = some (.ref f) ∧ PySem.W.keepIn K (.ref f) = true ∧ Binds K fd ps []
theorem dfA_of {ι T : Type} {P : Program} {w : World} {K : PySem.W.Frag} {mg : Str → Option Value} {base : Heap} {k : ι → Kx} {C : ι → Cell T} {x : Str} {st : Stmt} {N ps : List Str} {lv : Nat} {F : ι → FS T} (Fd : Ds K mg x st ps) (S : FnScope N ps (defScope st)) (hl : ps.length ≤ N.length)
    (hb : ∀ (i : ι) (f : Addr) (cdv : Value) (A : Around) (outer : List PySem.Env) (s : Shared) (H : Hp) (E : XK), Room lv (A.deeper (envOfC x (defScope st) s.heap.objs.size f cdv)) → SB (k i) (C i) (cx0 P w K mg base N x st f cdv A outer s H E) (defBody st) (F i)) :
    DfA P w K mg base (lv + 1) x (fun i => spD (k i) (C i) ps.length (runD ps.length (N.length - ps.length) (F i))) := by
  obtain ⟨f, fd, a, b, c⟩ := Fd.ex
  exact ⟨f, fd, ps, fun i => fn_ok a S hl (hb i f), b, a.kp, c⟩
theorem DfA.one {ι : Type} {P : Program} {w : World} {K : PySem.W.Frag} {mg : Str → Option Value} {base : Heap} {lv : Nat} {x : Str} {sp : ι → Sp} {f : Addr} {fd : FuncData} {ps : List Str} (h : ∀ i, FnOk P w K mg base CX0 lv f fd ps (sp i)) : FnOk P w K mg base CX0 lv f fd ps (fun vs H Q E => ∃ i, sp i vs H Q E) :=
  ⟨fun vs H Q E ⟨i, q⟩ => (h i).len vs H Q E q, fun A outer s H args us vs Q E a b c d ⟨i, q⟩ => (h i).run A outer s H args us vs Q E a b c d q⟩
end MM
/-! D5 -/
namespace MM
open PySem PySem.Spec PyProof.Rows L2
theorem pe_neg1 {X : Cx} {j : Nat} {q1 q2 : Pos} : PE X (.UnaryOp .USub (.Constant (.int 1) j q1) q2) (tC (.int (-1))) := pe_imp (pe_un un_neg pe_int) fun _ _ _ h => ⟨1, rfl, h⟩
section
variable {k : Kx} {C : Cell Unit} {P : Program} {w : World} {K : PySem.W.Frag} {mg : Str → Option Value} {base : Heap}
/-! ### _law_take -/
abbrev N__law_take : List Str := ["_law_tub", "_law_top_to", "_law_once", "_law_odd", "_law_twice", "_law_drawn_here"]
def F__law_take : FS Tub := seqS (sIf (tst (o2 (iB fun i j => decide (j < i)) (tbG 0 0) (cI 0))) (seqS (sSet 5 (o2 (iI modI) (o1 intD (tbG 0 0)) (xB 1))) (seqS (tbS 0 0 (o2 (iI fdivI) (tbG 0 0) (xB 1))) (sRet (xV 5)))) (sNil))
    (seqS (tbS 0 2 (o2 (iI fun i j => some (i + j)) (tbG 0 2) (cI 1))) (seqS (sSet 2 (o2 (iI modI) (o1 intD (o2 (iI mulI) (o2 (iI fun i j => some (i + j)) (tbG 0 1) (o2 (iI mulI) (cI 48271) (tbG 0 2))) (o2 (iI fun i j => some (i +
    j)) (cI 39373) (tbG 0 2)))) (cI 2147483647))) (seqS (sSet 3 (o2 (iI fun i j => some (i + j)) (o2 (iI modI) (o1 intD (xB 2)) (cI 40009)) (cI 7))) (seqS (sSet 4 (o2 (iI modI) (o1 intD (o2 (iI mulI) (o2 (iI fun i j => some (i +
    j)) (o2 (iI fun i j => some (i + j)) (xB 2) (tbG 0 2)) (o2 (iI fdivI) (tbG 0 1) (cI 1000003))) (xB 3))) (cI 2147483629))) (sRet (o2 (iI modI) (o1 intD (o2 (iI fdivI) (o2 (iI modI) (o1 intD (o2 (iI fun i j => some (i + j)) (o2
    (iI mulI) (xB 4) (cI 48271)) (xB 2))) (cI 2147483587)) (cI 64))) (xB 1)))))))
def G__law_take : List D → M Tub D := runD 2 4 F__law_take
theorem d__law_take (B : Bi mg) (Dd : Ds K mg "_law_take" (top 37) ["_law_tub", "_law_top_to"]) (hn : ¬ C.mu k.pt) : Df P w K mg base k (Ct C k.pt) (0 + 1) "_law_take" 2 G__law_take :=
  (df_of (N := N__law_take) (lv := 0) (F := F__law_take) Dd (C8.fnScope_by (by decide)) (by decide) fun f cdv A outer s H E hr => have nd : (N__law_take).Nodup := by decide
    sb_cons (ss_if (et_cmp op_gt ok_B (eb_of (ed_tub 0 0)) (eb_of (ed_int))) (sb_cons (ss_set 5 nd (ed_op op_mod ok_mod (eb_of (ed_t1 call_int1 c_int B.int (by rfl) (eb_of (ed_tub 0 0)))) (eb_var 1))) (sb_cons (ss_tub 0 0 (ed_op
    op_fdiv ok_fdiv (eb_of (ed_tub 0 0)) (eb_var 1)) hn) (sb_one (ss_ret (ed_var 5))))) (sb_nil)) (sb_cons (ss_tub 0 2 (ed_op op_add ok_I0 (eb_of (ed_tub 0 2)) (eb_of (ed_int))) hn) (sb_cons (ss_set 2 nd (ed_op op_mod ok_mod
    (eb_of (ed_t1 call_int1 c_int B.int (by rfl) (eb_of (ed_op op_mul ok_mul (eb_of (ed_op op_add ok_I0 (eb_of (ed_tub 0 1)) (eb_of (ed_op op_mul ok_mul (eb_of (ed_int)) (eb_of (ed_tub 0 2)))))) (eb_of (ed_op op_add ok_I0 (eb_of
    (ed_int)) (eb_of (ed_tub 0 2)))))))) (eb_of (ed_int)))) (sb_cons (ss_set 3 nd (ed_op op_add ok_I0 (eb_of (ed_op op_mod ok_mod (eb_of (ed_t1 call_int1 c_int B.int (by rfl) (eb_var 2))) (eb_of (ed_int)))) (eb_of (ed_int))))
    (sb_cons (ss_set 4 nd (ed_op op_mod ok_mod (eb_of (ed_t1 call_int1 c_int B.int (by rfl) (eb_of (ed_op op_mul ok_mul (eb_of (ed_op op_add ok_I0 (eb_of (ed_op op_add ok_I0 (eb_var 2) (eb_of (ed_tub 0 2)))) (eb_of (ed_op op_fdiv
    ok_fdiv (eb_of (ed_tub 0 1)) (eb_of (ed_int)))))) (eb_var 3))))) (eb_of (ed_int)))) (sb_one (ss_ret (ed_op op_mod ok_mod (eb_of (ed_t1 call_int1 c_int B.int (by rfl) (eb_of (ed_op op_fdiv ok_fdiv (eb_of (ed_op op_mod ok_mod
    (eb_of (ed_t1 call_int1 c_int B.int (by rfl) (eb_of (ed_op op_add ok_I0 (eb_of (ed_op op_mul ok_mul (eb_var 4) (eb_of (ed_int)))) (eb_var 2))))) (eb_of (ed_int)))) (eb_of (ed_int)))))) (eb_var 1)))))))))

/-! ### _law_of -/
abbrev N__law_of : List Str := ["_law_tub", "_law_few_so"]
def F__law_of : FS Tub := sRet (o2 idxL (xB 1) (cT 2 G__law_take (aC (xV 0) (aC (o1 lenD (xB 1)) (aN)))))
def G__law_of : List D → M Tub D := runD 2 0 F__law_of
theorem d__law_of (B : Bi mg) (Dd : Ds K mg "_law_of" (top 39) ["_law_tub", "_law_few_so"]) (c__law_take : Df P w K mg base k (Ct C k.pt) 1 "_law_take" 2 G__law_take) (hn : ¬ C.mu k.pt) : Df P w K mg base k (Ct C k.pt) (1 + 1)
    "_law_of" 2 G__law_of :=
  (df_of (N := N__law_of) (lv := 1) (F := F__law_of) Dd (C8.fnScope_by (by decide)) (by decide) fun f cdv A outer s H E hr => have nd : (N__law_of).Nodup := by decide
    sb_one (ss_ret (ed_ix ix_lt ok_ix (eb_var 1) (eb_of (ed_call c__law_take (hr.mono (by decide)) (ea_cons (ed_var 0) (ea_cons (ed_b1 call_len c_len B.len (by rfl) (eb_var 1)) (ea_nil))))))))

/-! ### _law_pick -/
abbrev N__law_pick : List Str := ["_law_tub", "_law_few_so", "_law_much_so", "_law_turn", "_law_left", "_law_found"]
def F__law_pick : FS Tub := seqS (sPar2 4 5 (vL (l1 seqOf (xB 1))) (vL (lLst (aN)))) (seqS (sFor (iRng (eMin (aC (xV 2) (aC (o1 lenD (xB 4)) (aN))))) (bd1 3) (sPop 5 4 (cT 2 G__law_take (aC (xV 0) (aC (o1 lenD (xB 4)) (aN))))))
    (sRetO 5))
def G__law_pick : List D → M Tub D := runD 3 3 F__law_pick
theorem d__law_pick (B : Bi mg) (Dd : Ds K mg "_law_pick" (top 40) ["_law_tub", "_law_few_so", "_law_much_so"]) (c__law_take : Df P w K mg base k (Ct C k.pt) 1 "_law_take" 2 G__law_take) (hn : ¬ C.mu k.pt) : Df P w K mg base k (Ct
    C k.pt) (1 + 1) "_law_pick" 3 G__law_pick :=
  (df_of (N := N__law_pick) (lv := 1) (F := F__law_pick) Dd (C8.fnScope_by (by decide)) (by decide) fun f cdv A outer s H E hr => have nd : (N__law_pick).Nodup := by decide
    sb_cons (ss_par2 4 5 rfl nd (ev_L (el_t1 call_list_of c_list B.list (by rfl) (eb_var 1))) (ev_L (el_lst (ea_nil)))) (sb_cons (ss_for PassesOwn.never rfl (wi_range1 B.range (ed_min (x := "min") rfl B.min (ea_cons (ed_var 2)
    (ea_cons (ed_b1 call_len c_len B.len (by rfl) (eb_var 4)) (ea_nil))))) (gt_name 3 nd) (sb_one (ss_apop 5 4 (by decide) (ed_call c__law_take (hr.mono (by decide)) (ea_cons (ed_var 0) (ea_cons (ed_b1 call_len c_len B.len (by
    rfl) (eb_var 4)) (ea_nil))))))) (sb_one (ss_retO 5))))

/-! ### _law_web -/
abbrev N__law_web : List Str := ["_law_tub", "_law_wide_so", "_law_many_so", "_law_tags", "_law_found", "_law_tag"]
def F__law_web : FS Tub := seqS (sSet 3 (oL (sliL (oL (lLst (aC (cS "c") (aC (cS "d") (aC (cS "p") (aC (cS "q") (aC (cS "r") (aC (cS "zzzzzzzz") (aN))))))))) (pN) (pS (o2 (iI fun i j => some (i + j)) (cI 1) (cT 2 G__law_take (aC
    (xV 0) (aC (xV 1) (aN))))))))) (seqS (sSetL 4 (lLst (aN))) (seqS (sFor (iSeq (oL (sliL (oL (lLst (aC (cS "a") (aC (cS "b") (aC (cS "k") (aC (cS "m") (aC (cS "x") (aC (cS "y") (aN))))))))) (pN) (pS (o2 (iI fun i j => some (i +
    j)) (cI 1) (cT 2 G__law_take (aC (xV 0) (aC (xV 2) (aN))))))))) (bd1 5) (sApp 4 (eTup (aC (xV 5) (aC (tt1 lstD (oL (sSeq (cT 3 G__law_pick (aC (xV 0) (aC (xV 3) (aC (o2 (iI fun i j => some (i + j)) (cI 1) (cT 2 G__law_take (aC
    (xV 0) (aC (o1 lenD (xB 3)) (aN))))) (aN)))))))) (aN)))))) (sRet (eTup (aC (tt1 lstD (xB 3)) (aC (tt1 lstD (xB 4)) (aN)))))))
def G__law_web : List D → M Tub D := runD 3 3 F__law_web
theorem d__law_web (B : Bi mg) (Dd : Ds K mg "_law_web" (top 44) ["_law_tub", "_law_wide_so", "_law_many_so"]) (c__law_take : Df P w K mg base k (Ct C k.pt) 1 "_law_take" 2 G__law_take) (c__law_pick : Df P w K mg base k (Ct C
    k.pt) 2 "_law_pick" 3 G__law_pick) (hn : ¬ C.mu k.pt) : Df P w K mg base k (Ct C k.pt) (2 + 1) "_law_web" 3 G__law_web :=
  (df_of (N := N__law_web) (lv := 2) (F := F__law_web) Dd (C8.fnScope_by (by decide)) (by decide) fun f cdv A outer s H E hr => have nd : (N__law_web).Nodup := by decide
    sb_cons (ss_set 3 nd (ed_ofL (el_slice (eb_of (ed_ofL (el_lst (ea_cons (ed_str) (ea_cons (ed_str) (ea_cons (ed_str) (ea_cons (ed_str) (ea_cons (ed_str) (ea_cons (ed_str) (ea_nil)))))))))) (eo_none) (eo_some (ed_op op_add ok_I0
    (eb_of (ed_int)) (eb_of (ed_call c__law_take (hr.mono (by decide)) (ea_cons (ed_var 0) (ea_cons (ed_var 1) (ea_nil)))))))))) (sb_cons (ss_setL 4 nd (el_lst (ea_nil))) (sb_cons (ss_for PassesOwn.never rfl (wi_seq (ed_ofL
    (el_slice (eb_of (ed_ofL (el_lst (ea_cons (ed_str) (ea_cons (ed_str) (ea_cons (ed_str) (ea_cons (ed_str) (ea_cons (ed_str) (ea_cons (ed_str) (ea_nil)))))))))) (eo_none) (eo_some (ed_op op_add ok_I0 (eb_of (ed_int)) (eb_of
    (ed_call c__law_take (hr.mono (by decide)) (ea_cons (ed_var 0) (ea_cons (ed_var 2) (ea_nil)))))))))) (gt_name 5 nd) (sb_one (ss_app 4 (ed_tup (ea_cons (ed_var 5) (ea_cons (ed_tt call_tupF c_tuple B.tuple (by rfl) (eb_of
    (ed_ofL (el_sorted hr.units B.sorted (eb_of (ed_call c__law_pick (hr.mono (by decide)) (ea_cons (ed_var 0) (ea_cons (ed_var 3) (ea_cons (ed_op op_add ok_I0 (eb_of (ed_int)) (eb_of (ed_call c__law_take (hr.mono (by decide))
    (ea_cons (ed_var 0) (ea_cons (ed_b1 call_len c_len B.len (by rfl) (eb_var 3)) (ea_nil)))))) (ea_nil)))))))))) (ea_nil))))))) (sb_one (ss_ret (ed_tup (ea_cons (ed_tt call_tupF c_tuple B.tuple (by rfl) (eb_var 3)) (ea_cons
    (ed_tt call_tupF c_tuple B.tuple (by rfl) (eb_var 4)) (ea_nil)))))))))

/-! ### _law_row -/
abbrev N__law_row : List Str := ["_law_tub", "_law_web_here", "_law_most_so", "_law_names_so", "_law_tag"]
def F__law_row : FS Tub := seqS (sSet 3 (cT 3 G__law_pick (aC (xV 0) (aC (oL (lLst (aC (cS "t") (aC (cS "u") (aC (cS "v") (aC (cS "w") (aC (cS "a") (aC (cS "p") (aC (cS "ta") (aC (cS "b") (aN))))))))))) (aC (cT 2 G__law_take (aC
    (xV 0) (aC (o2 (iI fun i j => some (i + j)) (xB 2) (cI 1)) (aN)))) (aN)))))) (sRet (tt1 lstD (oL (lcF (iSeq (xV 3)) (bd1 4) (ifT) (eTup (aC (xV 4) (aC (o2 idxL (cT 2 G__law_of (aC (xV 0) (aC (o2 idxL (xB 1) (cI 1)) (aN)))) (cI
    0)) (aN)))) [4]))))
def G__law_row : List D → M Tub D := runD 3 2 F__law_row
theorem d__law_row (B : Bi mg) (Dd : Ds K mg "_law_row" (top 45) ["_law_tub", "_law_web_here", "_law_most_so"]) (c__law_pick : Df P w K mg base k (Ct C k.pt) 2 "_law_pick" 3 G__law_pick) (c__law_take : Df P w K mg base k (Ct C
    k.pt) 1 "_law_take" 2 G__law_take) (c__law_of : Df P w K mg base k (Ct C k.pt) 2 "_law_of" 2 G__law_of) (hn : ¬ C.mu k.pt) : Df P w K mg base k (Ct C k.pt) (2 + 1) "_law_row" 3 G__law_row :=
  (df_of (N := N__law_row) (lv := 2) (F := F__law_row) Dd (C8.fnScope_by (by decide)) (by decide) fun f cdv A outer s H E hr => have nd : (N__law_row).Nodup := by decide
    sb_cons (ss_set 3 nd (ed_call c__law_pick (hr.mono (by decide)) (ea_cons (ed_var 0) (ea_cons (ed_ofL (el_lst (ea_cons (ed_str) (ea_cons (ed_str) (ea_cons (ed_str) (ea_cons (ed_str) (ea_cons (ed_str) (ea_cons (ed_str) (ea_cons
    (ed_str) (ea_cons (ed_str) (ea_nil))))))))))) (ea_cons (ed_call c__law_take (hr.mono (by decide)) (ea_cons (ed_var 0) (ea_cons (ed_op op_add ok_I0 (eb_var 2) (eb_of (ed_int))) (ea_nil)))) (ea_nil)))))) (sb_one (ss_ret (ed_tt
    call_tupF c_tuple B.tuple (by rfl) (eb_of (ed_ofL (el_lc [("_law_tag", 4)] rfl nd (wi_seq (ed_var 3)) (blkOk_by (by rfl)) (fun _ _ _ _ _ => gt_name 4 nd) (fun _ _ _ _ _ => pts_t0) (fun _ _ _ _ _ => ed_tup (ea_cons (ed_var 4)
    (ea_cons (ed_ix ix_lt ok_ix (eb_of (ed_call c__law_of (hr.mono (by decide)) (ea_cons (ed_var 0) (ea_cons (ed_ix ix_lt ok_ix (eb_var 1) (eb_of (ed_int))) (ea_nil))))) (eb_of (ed_int))) (ea_nil)))))))))))

/-! ### _law_seats -/
abbrev N__law_seats : List Str := ["_law_tub", "_law_web_here", "_law_row_so", "_law_tag", "_law_may_so", "_law_found", "_law_free_so", "_law_own", "_law_far"]
def F__law_seats : FS Tub := seqS (sPar2 4 5 (vD (cP 2 G__law_may (aC (xV 1) (aC (xV 2) (aN))))) (vL (lLst (aN)))) (seqS (sFor (iSeq (cT 3 G__law_pick (aC (xV 0) (aC (oL (lcF (iSeq (xV 2)) (bd1 7) (ifT) (o2 idxL (xB 7) (cI 0))
    [7])) (aC (o1 lenD (xB 2)) (aN)))))) (bd1 3) (seqS (sLc 6 (lcF (iSeq (o2 idxK (xB 4) (xB 3))) (bd1 8) (tst (o2 (inK true) (xB 8) (oK (k1 lpD (xB 5))))) (xV 8) [8])) (sIf (tAnd (tst (o2 (eqD true) (xB 6) (oL (lLst (aN))))) (tst
    (o2 (iB fun i j => decide (j < i)) (cT 2 G__law_take (aC (xV 0) (aC (cI 4) (aN)))) (cI 0)))) (sApp 5 (eTup (aC (cT 2 G__law_of (aC (xV 0) (aC (xV 6) (aN)))) (aC (xV 3) (aN))))) (sNil)))) (sRet (tt1 lstD (oL (sSeq (xB 5))))))
def G__law_seats : List D → M Tub D := runD 3 6 F__law_seats
theorem d__law_seats (B : Bi mg) (Dd : Ds K mg "_law_seats" (top 47) ["_law_tub", "_law_web_here", "_law_row_so"]) (c__law_may : Df P w K mg base k C 1 "_law_may" 2 (pureG G__law_may)) (c__law_pick : Df P w K mg base k (Ct C k.pt)
    2 "_law_pick" 3 G__law_pick) (c__law_take : Df P w K mg base k (Ct C k.pt) 1 "_law_take" 2 G__law_take) (c__law_of : Df P w K mg base k (Ct C k.pt) 2 "_law_of" 2 G__law_of) (hn : ¬ C.mu k.pt) : Df P w K mg base k (Ct C k.pt)
    (2 + 1) "_law_seats" 3 G__law_seats :=
  (df_of (N := N__law_seats) (lv := 2) (F := F__law_seats) Dd (C8.fnScope_by (by decide)) (by decide) fun f cdv A outer s H E hr => have nd : (N__law_seats).Nodup := by decide
    sb_cons (ss_parU2 4 5 rfl nd (ev_val (ed_callP (ct_le hn) c__law_may (hr.mono (by decide)) (ea_cons (ed_var 1) (ea_cons (ed_var 2) (ea_nil))))) (ev_L (el_lst (ea_nil)))) (sb_cons (ss_for PassesOwn.never rfl (wi_seq (ed_call
    c__law_pick (hr.mono (by decide)) (ea_cons (ed_var 0) (ea_cons (ed_ofL (el_lc [("_law_own", 7)] rfl nd (wi_seq (ed_var 2)) (blkOk_by (by rfl)) (fun _ _ _ _ _ => gt_name 7 nd) (fun _ _ _ _ _ => pts_t0) (fun _ _ _ _ _ => ed_ix
    ix_lt ok_ix (eb_var 7) (eb_of (ed_int))))) (ea_cons (ed_b1 call_len c_len B.len (by rfl) (eb_var 2)) (ea_nil)))))) (gt_name 3 nd) (sb_cons (ss_lc [("_law_far", 8)] 6 rfl nd (wi_seq (ed_dget (u1 hr.units) (eb_var 4) (eb_var
    3))) (blkOk_by (by rfl)) (fun _ _ _ _ _ => gt_name 8 nd) (fun _ _ _ _ _ => pts_t1 (et_ninK (u1 hr.units) (eb_var 8) (eb_of (ed_ofK (ek_t1 (call_dictP rfl) c_dictP B.dict (by rfl) (eb_var 5)))))) (fun _ _ _ _ _ => ed_var 8) (by
    rfl)) (sb_one (ss_if (et_w (ew_and (et_cmp (op_neD hr.units) ok_ne (eb_var 6) (eb_of (ed_ofL (el_lst (ea_nil))))) (ew_one_and (et_cmp op_gt ok_B (eb_of (ed_call c__law_take (hr.mono (by decide)) (ea_cons (ed_var 0) (ea_cons
    (ed_int) (ea_nil))))) (eb_of (ed_int)))))) (sb_one (ss_app 5 (ed_tup (ea_cons (ed_call c__law_of (hr.mono (by decide)) (ea_cons (ed_var 0) (ea_cons (ed_var 6) (ea_nil)))) (ea_cons (ed_var 3) (ea_nil)))))) (sb_nil))))) (sb_one
    (ss_ret (ed_tt call_tupF c_tuple B.tuple (by rfl) (eb_of (ed_ofL (el_sorted hr.units B.sorted (eb_var 5)))))))))

/-! ### _law_drawn -/
abbrev N__law_drawn : List Str := ["_law_tub", "_law_web_here", "_law_row_so", "_law_seats_so", "_law_every", "_law_may_so", "_law_here_so", "_law_found", "_law_tag", "_law_own", "_law_way_so"]
def F__law_drawn : FS Tub := seqS (sPar3 5 6 7 (vD (cP 2 G__law_may (aC (xV 1) (aC (xV 2) (aN))))) (vD (xV 3)) (vD (eTup (aN)))) (seqS (sSet 4 (oL (lLst (aN)))) (seqS (sFor (iSeq (xV 2)) (bd2 8 9) (sSet 4 (oL (l2 catL (xB 4) (cP 4
    G__law_shifts (aC (xV 2) (aC (xV 5) (aC (xV 6) (aC (xV 8) (aN)))))))))) (seqS (sWh 1000 (tst (o2 (eqD true) (xB 4) (oL (lLst (aN))))) (seqS (sSet 10 (cT 2 G__law_of (aC (xV 0) (aC (xV 4) (aN))))) (seqS (sPar3 7 6 4 (vD (o2
    catT (xB 7) (eTup (aC (xV 10) (aN))))) (vD (cP 2 G__law_moved (aC (xV 6) (aC (xV 10) (aN))))) (vD (oL (lLst (aN))))) (sFor (iSeq (xV 2)) (bd2 8 9) (sSet 4 (oL (l2 catL (xB 4) (cP 4 G__law_shifts (aC (xV 2) (aC (xV 5) (aC (xV
    6) (aC (xV 8) (aN))))))))))))) (sRet (eTup (aC (xV 7) (aC (xV 6) (aN))))))))
def G__law_drawn : List D → M Tub D := runD 4 7 F__law_drawn
theorem d__law_drawn (B : Bi mg) (Dd : Ds K mg "_law_drawn" (top 54) ["_law_tub", "_law_web_here", "_law_row_so", "_law_seats_so"]) (c__law_may : Df P w K mg base k C 1 "_law_may" 2 (pureG G__law_may)) (c__law_shifts : Df P w K mg
    base k C 1 "_law_shifts" 4 (pureG G__law_shifts)) (c__law_of : Df P w K mg base k (Ct C k.pt) 2 "_law_of" 2 G__law_of) (c__law_moved : Df P w K mg base k C 1 "_law_moved" 2 (pureG G__law_moved)) (hn : ¬ C.mu k.pt) : Df P w K
    mg base k (Ct C k.pt) (2 + 1) "_law_drawn" 4 G__law_drawn :=
  (df_of (N := N__law_drawn) (lv := 2) (F := F__law_drawn) Dd (C8.fnScope_by (by decide)) (by decide) fun f cdv A outer s H E hr => have nd : (N__law_drawn).Nodup := by decide
    sb_cons (ss_par3 5 6 7 rfl nd (ev_val (ed_callP (ct_le hn) c__law_may (hr.mono (by decide)) (ea_cons (ed_var 1) (ea_cons (ed_var 2) (ea_nil))))) (ev_val (ed_var 3)) (ev_val (ed_tup (ea_nil)))) (sb_cons (ss_set 4 nd (ed_ofL (el_lst
    (ea_nil)))) (sb_cons (ss_for PassesOwn.never rfl (wi_seq (ed_var 2)) (gt_two 8 9 rfl nd) (sb_one (ss_set 4 nd (ed_ofL (el_cat (eb_var 4) (eb_of (ed_callP (ct_le hn) c__law_shifts (hr.mono (by decide)) (ea_cons (ed_var 2)
    (ea_cons (ed_var 5) (ea_cons (ed_var 6) (ea_cons (ed_var 8) (ea_nil)))))))))))) (sb_cons (ss_while 1000 PassesOwn.never (et_cmp (op_neD hr.units) ok_ne (eb_var 4) (eb_of (ed_ofL (el_lst (ea_nil))))) (sb_cons (ss_set 10 nd
    (ed_call c__law_of (hr.mono (by decide)) (ea_cons (ed_var 0) (ea_cons (ed_var 4) (ea_nil))))) (sb_cons (ss_par3 7 6 4 rfl nd (ev_val (ed_catT (eb_var 7) (eb_of (ed_tup (ea_cons (ed_var 10) (ea_nil)))))) (ev_val (ed_callP
    (ct_le hn) c__law_moved (hr.mono (by decide)) (ea_cons (ed_var 6) (ea_cons (ed_var 10) (ea_nil))))) (ev_val (ed_ofL (el_lst (ea_nil))))) (sb_one (ss_for PassesOwn.never rfl (wi_seq (ed_var 2)) (gt_two 8 9 rfl nd) (sb_one
    (ss_set 4 nd (ed_ofL (el_cat (eb_var 4) (eb_of (ed_callP (ct_le hn) c__law_shifts (hr.mono (by decide)) (ea_cons (ed_var 2) (ea_cons (ed_var 5) (ea_cons (ed_var 6) (ea_cons (ed_var 8) (ea_nil)))))))))))))))) (sb_one (ss_ret
    (ed_tup (ea_cons (ed_var 7) (ea_cons (ed_var 6) (ea_nil))))))))))

/-! ### _law_right -/
abbrev N__law_right : List Str := ["_law_tub", "_law_turn", "_law_web_here", "_law_row_so", "_law_seats_so", "_law_said_so", "_law_got", "_law_own", "_law_ways_so", "_law_here_so", "_law_due"]
def F__law_right : FS Tub := seqS (sFor (iRng (cI 8)) (bd1 1) (seqS (sSet 2 (cT 3 G__law_web (aC (xV 0) (aC (cI 4) (aC (cI 4) (aN)))))) (seqS (sSet 3 (cT 3 G__law_row (aC (xV 0) (aC (xV 2) (aC (cI 6) (aN)))))) (seqS (sSet 4 (cT 3
    G__law_seats (aC (xV 0) (aC (xV 2) (aC (xV 3) (aN)))))) (seqS (sUnp (bd2 8 9) (cT 4 G__law_drawn (aC (xV 0) (aC (xV 2) (aC (xV 3) (aC (xV 4) (aN))))))) (seqS (sSet 5 (cP 3 G_settling (aC (xV 2) (aC (xV 3) (aC (xV 4) (aN))))))
    (seqS (sSetL 6 (lLst (aC (cP 4 G__law_shows (aC (xV 2) (aC (xV 3) (aC (xV 4) (aC (xV 5) (aN)))))) (aN)))) (seqS (sSetL 6 (l2 catL (xB 6) (oL (lLst (aC (cP 4 G_is_settling (aC (xV 2) (aC (xV 3) (aC (xV 4) (aC (xV 5) (aN))))))
    (aN)))))) (seqS (sSetL 6 (l2 catL (xB 6) (oL (lLst (aC (cP 4 G_is_settling (aC (xV 2) (aC (xV 3) (aC (xV 4) (aC (xV 8) (aN)))))) (aN)))))) (seqS (sApp 6 (o2 (eqD false) (cP 2 G_ideal (aC (xV 2) (aC (xV 3) (aN)))) (tt1 lstD (oL
    (sSeq (oL (lcF (iSeq (xV 9)) (bd1 7) (ifT) (o2 idxL (xB 7) (cI 1)) [7]))))))) (seqS (sApp 6 (o2 (eqD false) (cP 3 G_settling (aC (cP 1 (G__law_lists 8) (aC (xV 2) (aN))) (aC (cP 1 (G__law_lists 8) (aC (xV 3) (aN))) (aC (cP 1
    (G__law_lists 8) (aC (xV 4) (aN))) (aN))))) (xB 5))) (fun ρ => bnd (lft (frzE 6 ρ)) (seqS (sIf (tNot (tst (cP 2 (G__law_same 8) (aC (xV 6) (aC (oL (l2 repL (oL (lLst (aC (cB true) (aN)))) (cI 5))) (aN)))))) (sRet (cB false))
    (sNil)) (sFor (iSeq (eTup (aC (sliT (xV 8) (pN) (pS (eNeg (cI 1)))) (aC (stpT (xB 8) (pN) (-1)) (aC (o2 catT (xB 8) (sliT (xV 8) (pN) (pS (cI 1)))) (aC (sliT (xV 8) (pS (cI 1)) (pN)) (aN))))))) (bd1 7) (seqS (sSet 10 (cP 4
    G__law_shows (aC (xV 2) (aC (xV 3) (aC (xV 4) (aC (xV 7) (aN))))))) (sIf (tNot (tst (cP 2 (G__law_same 8) (aC (cP 4 G_is_settling (aC (xV 2) (aC (xV 3) (aC (xV 4) (aC (xV 7) (aN)))))) (aC (xV 10) (aN)))))) (sRet (cB false))
    (sNil))))))))))))))))) (sRet (cB true))
def G__law_right : List D → M Tub D := runD 1 10 F__law_right
theorem d__law_right {oc : Addr} (B : Bi mg) (Dd : Ds K mg "_law_right" (top 55) ["_law_tub"]) (c__law_web : ∀ p, ¬ C.mu p → Df P w K mg base ⟨p, oc⟩ (Ct C p) 3 "_law_web" 3 G__law_web) (c__law_row : ∀ p, ¬ C.mu p → Df P w K mg
    base ⟨p, oc⟩ (Ct C p) 3 "_law_row" 3 G__law_row) (c__law_seats : ∀ p, ¬ C.mu p → Df P w K mg base ⟨p, oc⟩ (Ct C p) 3 "_law_seats" 3 G__law_seats) (c__law_drawn : ∀ p, ¬ C.mu p → Df P w K mg base ⟨p, oc⟩ (Ct C p) 3 "_law_drawn"
    4 G__law_drawn) (c_settling : ∀ p, Df P w K mg base ⟨p, oc⟩ C 15 "settling" 3 (pureG G_settling)) (c__law_shows : ∀ p, Df P w K mg base ⟨p, oc⟩ C 2 "_law_shows" 4 (pureG G__law_shows)) (c_is_settling : ∀ p, Df P w K mg base
    ⟨p, oc⟩ C 16 "is_settling" 4 (pureG G_is_settling)) (c_ideal : ∀ p, Df P w K mg base ⟨p, oc⟩ C 13 "ideal" 2 (pureG G_ideal)) (c__law_lists : ∀ p, Df P w K mg base ⟨p, oc⟩ C 9 "_law_lists" 1 (pureG (G__law_lists 8)))
    (c__law_same : ∀ p, Df P w K mg base ⟨p, oc⟩ C 9 "_law_same" 2 (pureG (G__law_same 8))) : DfA P w K mg base (16 + 1) "_law_right" (fun i : { p : Addr // ¬ C.mu p } => spD ⟨i.1, oc⟩ (Ct C i.1) 1 G__law_right) :=
  dfA_of (N := N__law_right) (lv := 16) (k := fun i : { p : Addr // ¬ C.mu p } => ⟨i.1, oc⟩) (C := fun i => Ct C i.1) (F := fun _ => F__law_right) Dd (C8.fnScope_by (by decide)) (by decide) fun i f cdv A outer s H E hr => have nd : (N__law_right).Nodup := by decide
    have hn : ¬ C.mu i.1 := i.2; have c__law_web := c__law_web i.1 hn; have c__law_row := c__law_row i.1 hn; have c__law_seats := c__law_seats i.1 hn; have c__law_drawn := c__law_drawn i.1 hn; have c_settling := c_settling i.1; have c__law_shows := c__law_shows i.1; have c_is_settling := c_is_settling i.1; have c_ideal := c_ideal i.1; have c__law_lists := c__law_lists i.1; have c__law_same := c__law_same i.1;
    sb_cons (ss_for PassesOwn.never rfl (wi_range1 B.range (ed_int)) (gt_name 1 nd) (sb_cons (ss_set 2 nd (ed_call c__law_web (hr.mono (by decide)) (ea_cons (ed_var 0) (ea_cons (ed_int) (ea_cons (ed_int) (ea_nil)))))) (sb_cons (ss_set
    3 nd (ed_call c__law_row (hr.mono (by decide)) (ea_cons (ed_var 0) (ea_cons (ed_var 2) (ea_cons (ed_int) (ea_nil)))))) (sb_cons (ss_set 4 nd (ed_call c__law_seats (hr.mono (by decide)) (ea_cons (ed_var 0) (ea_cons (ed_var 2)
    (ea_cons (ed_var 3) (ea_nil)))))) (sb_cons (ss_unp (ed_call c__law_drawn (hr.mono (by decide)) (ea_cons (ed_var 0) (ea_cons (ed_var 2) (ea_cons (ed_var 3) (ea_cons (ed_var 4) (ea_nil)))))) (gt_two 8 9 rfl nd)) (sb_cons (ss_set
    5 nd (ed_callP (ct_le hn) c_settling (hr.mono (by decide)) (ea_cons (ed_var 2) (ea_cons (ed_var 3) (ea_cons (ed_var 4) (ea_nil)))))) (sb_cons (ss_setL 6 nd (el_lst (ea_cons (ed_callP (ct_le hn) c__law_shows (hr.mono (by
    decide)) (ea_cons (ed_var 2) (ea_cons (ed_var 3) (ea_cons (ed_var 4) (ea_cons (ed_var 5) (ea_nil)))))) (ea_nil)))) (sb_cons (ss_setL 6 nd (el_cat (eb_var 6) (eb_of (ed_ofL (el_lst (ea_cons (ed_callP (ct_le hn) c_is_settling
    (hr.mono (by decide)) (ea_cons (ed_var 2) (ea_cons (ed_var 3) (ea_cons (ed_var 4) (ea_cons (ed_var 5) (ea_nil)))))) (ea_nil))))))) (sb_cons (ss_setL 6 nd (el_cat (eb_var 6) (eb_of (ed_ofL (el_lst (ea_cons (ed_callP (ct_le hn)
    c_is_settling (hr.mono (by decide)) (ea_cons (ed_var 2) (ea_cons (ed_var 3) (ea_cons (ed_var 4) (ea_cons (ed_var 8) (ea_nil)))))) (ea_nil))))))) (sb_cons (ss_app 6 (ed_cmp (op_eqD hr.units) ok_eq (eb_of (ed_callP (ct_le hn)
    c_ideal (hr.mono (by decide)) (ea_cons (ed_var 2) (ea_cons (ed_var 3) (ea_nil))))) (eb_of (ed_tt call_tupF c_tuple B.tuple (by rfl) (eb_of (ed_ofL (el_sorted hr.units B.sorted (eb_of (ed_ofL (el_lc [("_law_own", 7)] rfl nd
    (wi_seq (ed_var 9)) (blkOk_by (by rfl)) (fun _ _ _ _ _ => gt_name 7 nd) (fun _ _ _ _ _ => pts_t0) (fun _ _ _ _ _ => ed_ix ix_lt ok_ix (eb_var 7) (eb_of (ed_int))))))))))))) (sb_cons (ss_app 6 (ed_cmp (op_eqD hr.units) ok_eq
    (eb_of (ed_callP (ct_le hn) c_settling (hr.mono (by decide)) (ea_cons (ed_callP (ct_le hn) c__law_lists (hr.mono (by decide)) (ea_cons (ed_var 2) (ea_nil))) (ea_cons (ed_callP (ct_le hn) c__law_lists (hr.mono (by decide))
    (ea_cons (ed_var 3) (ea_nil))) (ea_cons (ed_callP (ct_le hn) c__law_lists (hr.mono (by decide)) (ea_cons (ed_var 4) (ea_nil))) (ea_nil)))))) (eb_var 5))) (sb_frz 6 (sb_cons (ss_if (et_not (et_val (ed_callP (ct_le hn)
    c__law_same (hr.mono (by decide)) (ea_cons (ed_var 6) (ea_cons (ed_ofL (el_rep (eb_of (ed_ofL (el_lst (ea_cons (ed_bl) (ea_nil))))) (eb_of (ed_int)))) (ea_nil)))))) (sb_one (ss_ret (ed_bl))) (sb_nil)) (sb_one (ss_for
    PassesOwn.never rfl (wi_seq (ed_tup (ea_cons (ed_slice (ed_var 8) (eo_none) (eo_some (ed_neg (eb_of (ed_int))))) (ea_cons (ed_step (st := -1) pe_neg1 (eb_var 8) (eo_none)) (ea_cons (ed_catT (eb_var 8) (eb_of (ed_slice (ed_var
    8) (eo_none) (eo_some (ed_int))))) (ea_cons (ed_slice (ed_var 8) (eo_some (ed_int)) (eo_none)) (ea_nil))))))) (gt_name 7 nd) (sb_cons (ss_set 10 nd (ed_callP (ct_le hn) c__law_shows (hr.mono (by decide)) (ea_cons (ed_var 2)
    (ea_cons (ed_var 3) (ea_cons (ed_var 4) (ea_cons (ed_var 7) (ea_nil))))))) (sb_one (ss_if (et_not (et_val (ed_callP (ct_le hn) c__law_same (hr.mono (by decide)) (ea_cons (ed_callP (ct_le hn) c_is_settling (hr.mono (by decide))
    (ea_cons (ed_var 2) (ea_cons (ed_var 3) (ea_cons (ed_var 4) (ea_cons (ed_var 7) (ea_nil)))))) (ea_cons (ed_var 10) (ea_nil)))))) (sb_one (ss_ret (ed_bl))) (sb_nil))))))))))))))))))) (sb_one (ss_ret (ed_bl)))

end
end MM
/-! E1 -/
namespace MM
open PySem PySem.Spec PyProof.Rows L2
/-! ## further rules: for _law_cells, _law_box, law, _law_by_hand_right -/
section
variable {T : Type} {k : Kx} {C : Cell T} {E0 En H0 H H0' H' : Hp} {σ : L2.St} {ρ : Env} {t t' : T} {d : D} {v : V} {ds : List D} {vs : List V} {l : Addr}
variable {X : Cx} {a b c e : Expr} {es : List Expr} {pos p p2 p3 tpos : Pos} {fa fb fc : Env → M T D} {fl fm : Env → M T (List D)}
/-- xs or ys, both just made -/
theorem el_orL (ha : EL k C X a fl) (hb : EL k C X b fm) : EL k C X (.BoolOp .Or [a, b] pos) (fun ρ => bnd (fl ρ) fun xs => match xs with
      | [] => fm ρ
      | x :: xs => ret (x :: xs)) :=
  pe_imp (pe_orT ha (pe_one hb)) fun σ H Q ⟨E0, En, H0, ρ, t, d, t', R, ev, q⟩ => by
  obtain ⟨xs, t1, e1, ev1⟩ := bnd_some ev
  refine ⟨E0, En, H0, ρ, t, xs, t1, R, e1, fun H1 H1' p vs R1 g1 np n0 hp r1 => ⟨!vs.isEmpty, .inl ⟨vs, .inl (.inl hp), rfl⟩, ?_⟩⟩
  cases r1 with
  | nil =>
    rw [if_neg (show ¬ ((!([] : List V).isEmpty) = true) by decide)]
    exact ⟨E0, En, H1, ρ, t1, d, t', R1, ev1, fun H2 H2' p2 vs2 R2 g2 np2 n02 hp2 r2 => q _ _ _ _ R2 (g1.trans g2) (g1.trk _ np2) n02 hp2 r2⟩
  | cons rx r =>
    obtain ⟨rfl, rfl⟩ := ret_some ev1
    rw [if_pos (show (!(List.isEmpty (_ :: _))) = true from rfl)]
    exact q _ _ _ _ R1 g1 np n0 hp (.cons rx r)
/-- for i, x in enumerate(xs) -/
theorem wi_enumL {elts : List Expr} {kk : Nat} (hm : X.mg "enumerate" = none) (ha : ED k C X a fa) (hg : Gl X "enumerate" := by rfl) (hs : starEach [a] X.env = [(false, eval a X.env)] := by rfl) :
    WI k C X (.Tuple elts kk tpos) (.Call (.Name "enumerate" p) [a] [] pos) (fun ρ => bnd (fa ρ) fun x => bnd (lft (lstD x)) fun xs => ret (enumL 0 xs)) :=
  pi_imp (pi_enum hg hm (pa_cons ha pa_nil (by exact hs)) hs) fun σ H Rr ⟨E0, En, H0, ρ, t, ds, t', R, ev, q⟩ => by
  obtain ⟨x, t1, e1, ev1⟩ := bnd_some ev
  obtain ⟨xs, t2, e2, ev2⟩ := bnd_some ev1
  obtain ⟨rfl, rfl⟩ := ret_some ev2
  obtain ⟨e3, rfl⟩ := lft_some e2
  obtain rfl : x = .lst xs := by
    unfold lstD at e3
    split at e3 <;> cases e3
    rfl
  refine ⟨E0, En, H0, ρ, t, _, _, R, e1, fun H1 H1' v R1 g1 r1 => ?_⟩
  cases r1 with
  | lst h1 r =>
    next a1 us =>
    refine ⟨a1, us, rfl, .inl (.inl (R1.sub _ _ h1)), q _ _ _ R1 g1 fun i H2 H3 x1 x2 => ?_⟩
    have s1 : SqL X.K H3 a1 us := .inl (.inl ((x1.trans x2) _ _ h1))
    refine ⟨fun hi => ⟨us, s1, by rw [← r.length, ← enumL_len 0 xs]; exact hi⟩, fun d hd => ?_⟩
    obtain ⟨x, g2, rfl⟩ := enumL_get hd
    obtain ⟨u, u1, u2⟩ := r.get g2
    refine ⟨⟨us, u, s1, u1⟩, fun z H4 y4 => ?_⟩
    obtain ⟨P, u', rfl, hP, rfl, q1⟩ := y4
    have eu := q1 us s1
    rw [u1] at eu
    cases eu
    have f1 : H2 P = none := x2.free hP
    rw [Nat.zero_add]
    exact .inr ⟨P, _, hP, rfl, rfl, .pr upd_same (.int _) (u2.ex (x1.trans (ex_new f1)))⟩
/-- xs[i] = v, xs the slot's own list -/
def setE (i : Nat) (z d : D) (ρ : Env) : Option Out := match z, ρ[i]? with
  | .int n, some (some (.ol ds)) => match ixN ds.length n with
    | some m => some (.nx (ρ.set i (some (.ol (ds.set m d)))))
    | none => none
  | _, _ => none
theorem RpA.set {k : Kx} {H : Hp} {d : D} {v : V} (hd : Rp k H d v) : ∀ {ds : List D} {vs : List V} (m : Nat), RpA k H ds vs → RpA k H (ds.set m d) (vs.set m v)
  | _, _, _, .nil => .nil
  | _, _, 0, .cons _ r => .cons hd r
  | _, _, m + 1, .cons h r => .cons h (r.set hd m)
theorem ss_setix (i : Nat) {x : Str} (ha : ED k C X a fa) (hb : ED k C X b fb) (hN : X.N[i]? = some x := by rfl) (hv : Vis X.env.scope x := by first | exact Or.inl rfl | exact Or.inr (Or.inl rfl) | exact Or.inr (Or.inr rfl)) (hd : (x == ("__debug__" : Str)) = false := by decide)
    (hcd : (x == ("__classdict__" : Str)) = false := by decide) (hs : swapsWithSole [.Subscript (.Name x p) b p2] a pos.line X.env = pure false := by rfl) (hw : swappedStores [.Subscript (.Name x p) b p2] a X.env = pure none := by rfl)
    (h1 : (assignEach [.Subscript (.Name x p) b p2] X.env).map (·.2) = [assign (.Subscript (.Name x p) b p2) X.env] := by rfl)
    (hass : ∀ v, assign (.Subscript (.Name x p) b p2) X.env v = (do let ov ← holding [v] (eval (.Name x p) X.env); let iv ← holding [v, ov] (eval b X.env); standAt p2; holding [v, ov, iv] (setItem ov iv v); release [v, ov, iv] []) := by intro v; rfl) :
    SS k C X (.Assign [.Subscript (.Name x p) b p2] a pos) (fun ρ => bnd (fa ρ) fun d => bnd (fb ρ) fun z => lft (setE i z d ρ)) :=
  ps_imp (ps_asg ha (pg_sub (pe_var hN hv hd hcd) hb set_list hass) hs hw h1) fun N σ H ⟨E0, En, H0, ρ, t, o, t', R, ev, q⟩ => by
  obtain ⟨d, t1, e1, ev1⟩ := bnd_some ev
  obtain ⟨z, t2, e2, ev2⟩ := bnd_some ev1
  obtain ⟨e3, rfl⟩ := lft_some ev2
  unfold setE at e3
  split at e3
  · next z0 n ds e =>
    split at e3
    · next m hm =>
      cases e3
      refine ⟨E0, En, H0, ρ, t, d, t1, R, e1, fun H1 H1' v R1 g1 r1 => ?_⟩
      obtain ⟨l, us, h1, hl, r, _⟩ := R1.app e
      refine ⟨.ref l, h1, E0, En, H1, ρ, t1, .int n, t', R1, e2, fun H2 H2' w R2 g2 r2 => ?_⟩
      cases r2
      obtain ⟨l', us', h1', hl', r', up⟩ := R2.app e
      rw [h1] at h1'
      cases h1'
      exact ⟨l, us', n, m, rfl, rfl, hl', by rw [← r'.length]; exact hm, q _ _ _ (up _ _ (RpA.set (r1.ex g2.base) m r')) (g1.trans g2).base⟩
    · cases e3
  · cases e3
/-! ### the script -/
/-- the script's list: tracked as it is, tracked and frozen, or of the written part -/
def Scr (K : PySem.W.Frag) (live : Option Bool) (H : Hp) (a : Addr) (vs : List V) : Prop := match live with
  | some true => H a = some (.lst vs)
  | some false => ∃ o, H a = some (.frz o (.lst vs))
  | none => SqL K (fun _ => none) a vs
theorem Scr.sq {K : PySem.W.Frag} {live : Option Bool} {H : Hp} {a : Addr} {vs : List V} (h : Scr K live H a vs) : SqL K H a vs := by
  match live, h with
  | some true, h => exact .inl (.inl h)
  | some false, ⟨o, h⟩ => exact .inl (.inr ⟨o, h⟩)
  | none, .inl (.inl h) => cases h
  | none, .inl (.inr ⟨o, h⟩) => cases h
  | none, .inr h => exact .inr h
theorem scr_of {K : PySem.W.Frag} {H : Hp} {a : Addr} {vs : List V} (h : SqL K H a vs) : ∃ live, Scr K live H a vs := by
  rcases h with (h | ⟨o, h⟩) | h
  · exact ⟨some true, h⟩
  · exact ⟨some false, o, h⟩
  · exact ⟨none, .inr h⟩
theorem Scr.step {K : PySem.W.Frag} {live : Option Bool} {H H' : Hp} {a : Addr} {vs : List V} (h : Scr K live H a vs) (q : ∀ o, H a = some o → live ≠ none → (live = some true ∨ ¬ Chg o) → H' a = some o) : Scr K live H' a vs := by
  match live, h with
  | some true, h => exact q _ h (fun z => nomatch z) (.inl rfl)
  | some false, ⟨o, h⟩ => exact ⟨o, q _ h (fun z => nomatch z) (.inr fun z => z)⟩
  | none, h => exact h
def Cs (C : Cell Unit) (K : PySem.W.Frag) (a : Addr) (live : Option Bool) : Cell (List Int) where
  mu := fun b => C.mu b ∨ (live = some true ∧ b = a)
  rep := fun t H => C.rep () H ∧ Scr K live H a (t.map V.int)
  stay := fun t H H' h q => ⟨C.stay () H H' h.1 fun b o e z => q b o e (z.imp .inl id), h.2.step fun o e _ z => q a o e (z.imp (fun l => .inr ⟨l, rfl⟩) id)⟩
theorem cs_le {C : Cell Unit} {K : PySem.W.Frag} {a : Addr} {live : Option Bool} (hn : live ≠ none → ¬ C.mu a) : CellLe C (Cs C K a live) where
  mu := fun _ h => .inl h
  rep := fun _ _ h => h.1
  tb := fun b h => h.elim .inl fun ⟨l, e⟩ => .inr fun t H ps r z => by
    have r := r.2
    rw [l] at r
    have r : H a = some (.lst (t.map V.int)) := r
    rw [e, r] at z
    cases z
  back := fun t H H' h r q => ⟨r, h.2.step fun o e l _ => q a o e (hn l)⟩
theorem rpa_ints (k : Kx) (H : Hp) : ∀ ns : List Int, RpA k H (ns.map D.int) (ns.map V.int)
  | [] => .nil
  | n :: ns => .cons (.int n) (rpa_ints k H ns)
def scrF (i : Nat) (fl fh : FO (List Int)) : FL (List Int) := fun ρ => bnd (fl ρ) fun l => bnd (fh ρ) fun h t => if isTub i ρ then some (cutD (t.map D.int) l h, t) else none
theorem el_scr {C : Cell Unit} {live : Option Bool} (i : Nat) {x : Str} {lo hi : Option Expr} {fl fh : FO (List Int)} (hl : EO k (Cs C X.K k.pt live) X lo fl) (hh : EO k (Cs C X.K k.pt live) X hi fh) (hN : X.N[i]? = some x := by rfl) (hv : Vis X.env.scope x := by first | exact Or.inl rfl | exact Or.inr (Or.inl rfl) | exact Or.inr (Or.inr rfl)) (hd : (x == ("__debug__" : Str)) = false := by decide)
    (hcd : (x == ("__classdict__" : Str)) = false := by decide) : EL k (Cs C X.K k.pt live) X (.Subscript (.Name x p) (.Slice lo hi none p2) pos) (scrF i fl fh) :=
  pe_imp (pe_slice sl_list (pe_var hN hv hd hcd) hl hh) fun σ H Q ⟨E0, En, H0, ρ, t, d, t', R, ev, q⟩ => by
  obtain ⟨l, t1, e1, ev1⟩ := bnd_some ev
  obtain ⟨h, t2, e2, ev2⟩ := bnd_some ev1
  split at ev2
  · next hi =>
    cases ev2
    obtain ⟨_, h1, v, rfl, r⟩ := slot_at R (isTub_ok hi)
    cases r
    refine ⟨_, h1, E0, En, H0, ρ, t, l, t1, R, e1, fun H1 H1' R1 g1 => ⟨E0, En, H1, ρ, t1, h, _, R1, e2, fun H2 H2' R2 g2 => ?_⟩⟩
    refine ⟨k.pt, _, rfl, R2.rep.2.sq, fun p' hp' => ?_⟩
    obtain ⟨R4, g4⟩ := R2.newO (.lst (cutV (t'.map V.int) l h)) hp'
    exact q _ _ _ _ R4 ((g1.trans g2).trans g4) (g1.trk p' (g2.trk p' hp')) (R2.fresh hp').2.1 upd_same ((rpa_ints k H2 t').cut l h)
  · cases ev2
end
end MM
/-! E3 -/
namespace MM
open PySem PySem.Spec PySem.Calls PyProof.Rows L2
open PySem.W (Frag ksFn ksEnv excObj excTup kxs_mw InstAt)
/-! ## NoTask(x): the class, its __init__ -/
def ntTail : List Value := [.type "LookupError", .type "Exception", .type "BaseException", .type "object"]
def clsBody : Stmt → List Stmt
  | .ClassDef (body := b) .. => b
  | _ => []
def ntSt : Stmt := (clsBody (top 1)).getD 0 (.Pass ⟨0, 0, 0, 0⟩)
abbrev ntFn (doc pm : Value) (an : Option Addr) (cda : Addr) (ct : Value) (cc : Addr) : FuncData := ksFn "__init__" "NoTask.__init__" (defArgs ntSt) (defBody ntSt) (defScope ntSt) .none .none doc pm an (.ref cda) ct cc
structure NtC (P : Program) (K : Frag) (C : Addr) : Prop where
  ini : PySem.W.excInitIn K C ntTail "LookupError.__new__" = true
  ovr : PySem.W.excOver K C ntTail = true
  hd : PySem.W.hasDictIn K C = true
  sa : PySem.W.findIn K (.ref C) "__setattr__" = some (some (.builtin "object.__setattr__"))
  tn : PySem.W.takerIn K C "name" = some none
  kp : PySem.W.keepIn K (.ref C) = true
  op : PySem.W.nsIn K cStatics "thirdparty.any" = some none
  sup : PySem.W.ks_superIn K C C "__init__" = some (some (.builtin "LookupError.__init__"))
  sb : PySem.W.subIn K (.ref C) (.type "LookupError") = some true
  su : PySem.W.mroIn K C (.ref C) = some true
  fn : ∃ (fI cc cda : Addr) (oc : Value) (od : Option Addr) (doc pm ct : Value) (an : Option Addr) (osl : Array (Option Value)), PySem.W.findIn K (.ref C) "__init__" = some (some (.ref fI)) ∧ PySem.W.isFn K (.ref fI) = true ∧
    K.lookup fI = some ⟨oc, od, .func (ntFn doc pm an cda ct cc), osl⟩ ∧ PySem.W.codeIn K (.ref cda) "NoTask.__init__" = true ∧ (∃ cl cd csl, K.lookup cc = some ⟨cl, cd, .cell (some (.ref C)), csl⟩) ∧
    ∃ ccl cdd vs ccs file tf, K.lookup cda = some ⟨ccl, cdd, .fields vs, ccs⟩ ∧ vs[2]? = some (.str file tf) ∧ ((P.main.file : Str) == file) = true
section
variable {P : Program} {w : World} {A : Around} {E : Value → Shared → Prop} {h : Heap} {g : Array GenState} {d : Drawn} {t : Nat} {os : OsState} {K : Frag} {x C u t0 : Addr} {R : Result → Shared → Prop}
/-- LookupError.__init__, bound to the new object, called -/
theorem nt_wrap {rest : List Value} {Q : Value → Shared → Prop} (N : NtC P K C) (X : K.In h) (hx : h.get? x = some (excObj C t0 none .none)) (hu : h.get? u = some (kxs_mw "LookupError.__init__" x)) (hz : rest.length ≤ sizeLine)
    (q : ∀ h', (∀ b o, b ≠ x → h.get? b = some o → h'.get? b = some o) → h'.get? x = some (excObj C h.objs.size none .none) → Q .none ⟨h', g, d, t, os⟩) :
    wpAny (model P w) A (call (.ref u) rest) Q E ⟨h, g, d, t, os⟩ := by
  obtain ⟨nm, N', qn, bs, bm, hdct, sn, sub, ab, col, dd, k0, k1, k2, k3, k5, hC, hT⟩ := PySem.W.excInit_of X N.ini
  have FB := PySem.F.excBase_LookupError
  have e1 : (Value.type "method-wrapper" == Value.type "method" || Value.type "method-wrapper" == Value.type "builtin_function_or_method" || Value.type "method-wrapper" == Value.type "method-wrapper") = true := by decide
  refine wpAny_call (codeAny_of_tree (show wpAny _ A.in1 (callAny (.ref u) ⟨rest, []⟩) _ _ _ from ?_))
  simp only [callAny]
  refine wpAny_bind (wpAny_load hu ?_)
  simp only [kxs_mw, e1, if_true]
  refine PySem.W.KFB.if_so (by decide) (wpAny_bind (PySem.W.check_bound_init FB.toExcCallFacts hC hx rfl (wpAny_bind (wpAny_pure (wpAny_pure ⟨plainId_quiet FB.init.plain _, codeAny_builtin FB.initEntry ?_⟩)))))
  exact PySem.W.exc_init_tree (cls := .ref C) (t0 := t0) (dv := none) (c2 := .none) (c3 := .none) (b4 := .bool false) hx hz fun h' k e' _ => q h' k e'
/-- self.name = v -/
theorem nt_set {v : Value} {Q : Unit → Shared → Prop} (N : NtC P K C) (X : K.In h) (hx : h.get? x = some (excObj C t0 none .none))
    (q : ∀ h' tk dx, (∀ b o, b ≠ x → h.get? b = some o → h'.get? b = some o) → h.objs.size ≤ dx → dx ≠ x → h'.get? x = some (excObj C t0 (some dx) .none) → h'.Ns1 dx (fun y => if y = "name" then some v else none) → Q () ⟨h', g, d, tk, os⟩) :
    wpAny (model P w) A (setAttr (.ref x) "name" v) Q E ⟨h, g, d, t, os⟩ := by
  have I : InstAt h x (excObj C t0 none .none) C none := ⟨hx, rfl, rfl, trivial⟩
  have ne : x ≠ h.objs.size := Nat.ne_of_lt (Heap.lt_size hx)
  refine PySem.W.set_plain X I N.sa (PySem.W.osa_openX (r := none) PySem.F.store_LookupError X I N.ovr N.tn fun b => ?_)
  obtain ⟨cd, hcd, hh⟩ := PySem.W.any_some N.hd
  have hk : PySem.W.Looks (model P w) h (classData C) cd := PySem.W.looks_clsIn X hcd
  obtain ⟨n1, n2, n3, n4, n5, n6, n7, n8, n9, n10, n11⟩ := cd
  have hh : n6 = true := hh
  subst hh
  show wpAny _ _ (Builtin.ObjectAttr.storeInOwnDict (.ref x) (.ref C) (.str "name" t) "name" v b) _ _ _
  unfold Builtin.ObjectAttr.storeInOwnDict Builtin.ObjectAttr.ownDictForStores
  repeat (first | with_reducible refine HandSPX.store_in_new ?_ ?_ | with_reducible refine wpAny_loadPart_at hx ?_ | with_reducible refine hk.at ?_ | wp_step)
  · exact ⟨_, #[], _, (Heap.get?_update_ne _ _ _ _ ne.symm).trans (Heap.get?_push_at rfl rfl), rfl, (fun e he => absurd he (by simp)), fun _ => rfl⟩
  · intro h' tk' hn hs
    have e0 : (h.push { cls := .type "dict", data := .dict #[] }).get? x = some (excObj C t0 none .none) := Heap.get?_push_of_some _ hx
    exact q h' tk' h.objs.size (fun b o hb ho => (hs.2 b (Nat.ne_of_lt (Heap.lt_size ho))).trans ((Heap.get?_update_ne _ _ _ _ hb).trans (Heap.get?_push_of_some _ ho))) (Nat.le_refl _) ne.symm ((hs.2 x ne).trans (Heap.get?_update_self _ e0 rfl)) hn
/-- NoTask.__init__(x, v) -/
theorem nt_init {v : Value} {mg mb : Str → Option Value} (N : NtC P K C) (X : K.In h) (lim : h.NoLimit) (G : h.Ns mainGlobals mg) (hs : mg "super" = none) (Bb : h.Ns builtinsNs mb) (hb : mb "super" = bootBuiltins "super") (room : A.depth < recursionLimit)
    (htop : (P.main.scope.names.lookup ("super" : Str)).isSome = false) {fI : Addr} (hf : PySem.W.findIn K (.ref C) "__init__" = some (some (.ref fI))) (hx : h.get? x = some (excObj C t0 none .none)) (nK : K.lookup x = none)
    (q : ∀ h' tk dx t1, (∀ b o, b ≠ x → h.get? b = some o → h'.get? b = some o) → h.objs.size ≤ dx → dx ≠ x → h'.get? x = some (excObj C t1 (some dx) .none) → h'.Ns1 dx (fun y => if y = "name" then some v else none) → R (.ok (.ret .none)) ⟨h', g, d, tk, os⟩) :
    codeAny (model P w) A (.call (.ref fI) ⟨[.ref x, v], []⟩) R ⟨h, g, d, t, os⟩ := by
  obtain ⟨f2, cc, cda, oc, od, doc, pm, ct, an, osl, e1, _, lk, hcd, ⟨cl, cd, csl, lc⟩, ccl, cdd, vs, ccs, file, tf, lcd, hvs, hfile⟩ := N.fn
  rw [hf] at e1
  cases e1
  refine PySem.ks_codeAny_call_defAt (fd := ntFn doc pm an cda ct cc) (body := defBody ntSt) (binds := [("self", .ref x), ("name", v)]) room (X _ _ lk) rfl lim (PySem.W.codeRec_of X hcd) rfl (.of_eq ?_) ?_ ?_ (fun h0 hns hk0 => ?_)
  · rfl
  · show ∀ y ∈ (defScope ntSt).names, y.2 ≠ .cell
    decide
  · intro y hy
    rcases List.mem_cons.mp hy with rfl | hy
    · rfl
    · rw [List.mem_singleton.mp hy]; rfl
  obtain ⟨nm, N', qn, bs, bm, hdct, sn, sub, ab, col, dd, k0, k1, k2, k3, k5, hC, hT⟩ := PySem.W.excInit_of X N.ini
  obtain ⟨cdC, hcC, hhC⟩ := PySem.W.any_some N.hd
  have sup := N.sup
  unfold PySem.W.ks_superIn at sup
  rw [hcC] at sup
  have I : InstAt h x (excObj C t0 none .none) C none := ⟨hx, rfl, rfl, trivial⟩
  have xC := PySem.W.ks_ne X I hcC
  have X0 := X.keeps hk0
  have nL : h.objs.size ≠ x := (Nat.ne_of_lt (Heap.lt_size hx)).symm
  have ps : ∀ {h' : Heap}, (∀ b o, b ≠ x → h0.get? b = some o → h'.get? b = some o) → h'.Ns h.objs.size (fun y => [(("self" : Str), Value.ref x), ("name", v)].reverse.lookup y) := fun {h'} k => by
    obtain ⟨oL, es, ep, hL, r⟩ := hns
    exact ⟨oL, es, ep, k _ _ nL hL, r⟩
  refine PySem.ks_wpAt_execs_cons (PySem.ks_wpAt_Expr_any (PySem.ks_wpAt_MethodCall (pl := ?_) (PySem.ks_wpAt_super_base (f := fI) (cc := cda) rfl rfl rfl rfl (X0 _ _ lk) rfl rfl rfl (X0 _ _ lcd) rfl hvs hfile htop ?_)))
  rotate_left
  refine PySem.W.ks_loadName_global rfl rfl (loadGlobal_builtin (G.keeps hk0) hs (Bb.keeps hk0) (hb.trans (show bootBuiltins "super" = some (.type "super") by decide +kernel)) ⟨rfl, ?_⟩)
  refine wpAny_loadName_free rfl rfl rfl ⟨_, X0 _ _ lc, rfl⟩ (wpAny_loadName_local rfl rfl hns rfl ?_)
  refine PySem.ks_wpAny_isType_cls (hk0 _ _ hC) rfl ⟨rfl, ?_⟩
  refine PySem.ks_wpAny_call_super (hk0 _ _ hC) rfl (hk0 _ _ hx) rfl (fun c e => nomatch e) (PySem.W.looks_mroIn X0 N.su) (fun h1 e1 q1 => ?_)
  have X1 := X0.keeps q1
  refine PySem.W.kxs_getMethod PySem.W.kxs_LookupError e1 (PySem.W.looks_opaque X1 N.op) ((PySem.W.looks_clsIn X1 hcC).andThen .now) rfl X1 sup ((InstAt.type (od := none) (ox := excObj C t0 none .none) ⟨q1 _ _ (hk0 _ _ hx), rfl, rfl, trivial⟩).andThen (PySem.W.looks_subIn X1 N.sb)) xC rfl ?_
  have q2 : ∀ b o, h1.get? b = some o → (h1.push (kxs_mw "LookupError.__init__" x)).get? b = some o := fun b o e => Heap.get?_push_of_some _ e
  have hu : (h1.push (kxs_mw "LookupError.__init__" x)).get? h1.objs.size = some (kxs_mw "LookupError.__init__" x) := Heap.get?_push_at rfl rfl
  have X2 := X1.keeps q2
  have up : ∀ b o, h.get? b = some o → (h1.push (kxs_mw "LookupError.__init__" x)).get? b = some o := fun b o e => q2 b o (q1 b o (hk0 b o e))
  have n2 := ps (h' := h1.push (kxs_mw "LookupError.__init__" x)) fun b o _ e => q2 b o (q1 b o e)
  refine PySem.W.kxs_callWith (i := "LookupError.__init__") (x := x) (by rfl) (evalArgs_plain (args_cons (wpAny_Name (wpAny_loadName_local rfl rfl n2 rfl (args_nil ⟨hu, ?_⟩)) rfl)))
  refine nt_wrap N X2 (up _ _ hx) hu (show 1 ≤ sizeLine by rw [sizeLine_eq]; decide) fun h3 k3 e3 => ?_
  have up3 : ∀ b o, b ≠ x → h.get? b = some o → h3.get? b = some o := fun b o hb e => k3 b o hb (up b o e)
  have n3 := ps (h' := h3) fun b o hb e => k3 b o hb (q2 b o (q1 b o e))
  have X3 : K.In h3 := fun b o e => up3 b o (fun z => by rw [z, nK] at e; cases e) (X b o e)
  refine PySem.ks_wpAt_execs_cons (PySem.ks_wpAt_Assign_Attr (wpAt_of_wpAny (wpAny_Name (wpAny_loadName_local rfl rfl n3 rfl (wpAny_Name (wpAny_loadName_local rfl rfl n3 rfl (nt_set N X3 e3 fun h4 tk dx k4 hd hne hx4 hn4 => ?_)) rfl)) rfl)))
  refine wpAt_of_wpAny (wpAny_execs_nil (q h4 tk dx _ (fun b o hb e => k4 b o hb (up3 b o hb e)) ?_ hne hx4 hn4))
  obtain ⟨oL, _, _, hL, _⟩ := n3
  exact Nat.le_of_lt (Nat.lt_of_lt_of_le (Heap.lt_size hL) hd)
end
end MM
/-! E4 -/
namespace MM
open PySem PySem.Spec PySem.Calls PyProof.Rows L2
open PySem.W (Frag ksFn ksEnv excObj excTup kxs_mw InstAt)
section
variable {X : Cx} {pins : List (Addr × Obj)} {σ : L2.St} {H : Hp} {s : Shared} {x dx C t1 : Addr} {h' : Heap} {tk : Nat} {fs : List (Str × V)} {mA : Str → Option Value}
/-- an exception and its dict, both just laid -/
theorem laid2 (I : Inv X pins σ H s) (kp : ∀ b o, s.heap.get? b = some o → h'.get? b = some o) (zx : s.heap.objs.size ≤ x) (zd : s.heap.objs.size ≤ dx) (ne : dx ≠ x) (hx : h'.get? x = some (excObj C t1 (some dx) .none)) (hn : h'.Ns1 dx mA) (r : ∀ f, RelO (fs.lookup f) (mA f)) :
    Inv X pins σ (upd (upd H x (exo x C (some dx))) dx (exd dx fs)) { s with heap := h', toks := tk } := by
  have fx : H x = none := I.hok.fresh zx
  have fd : H dx = none := I.hok.fresh zd
  have lt : ∀ {b : Addr} {o : Obj} {c : Addr}, s.heap.get? b = some o → s.heap.objs.size ≤ c → b ≠ c := fun {b o c} e z => Nat.ne_of_lt (Nat.lt_of_lt_of_le (Heap.lt_size e) z)
  have old : ∀ {b : Addr} {u : HO}, H b = some u → upd (upd H x (exo x C (some dx))) dx (exd dx fs) b = some u := fun {b u} e => by
    rw [upd_ne (ne_of_none e fd), upd_ne (ne_of_none e fx)]; exact e
  have un : Un X.fs [] H (upd (upd H x (exo x C (some dx))) dx (exd dx fs)) s.heap h' := {
    keep := fun b o e _ _ _ => kp b o e
    slot := fun b o e _ _ _ => ⟨o.slots, kp b o e⟩
    free := fun b o e n _ => by rw [upd_ne (lt e zd), upd_ne (lt e zx)]; exact n
    there := fun b o e _ => ⟨o, kp b o e⟩
    tups := fun b xs e => old e
    frzs := fun b o v e => old e
    tbls := fun b ps e => ⟨#[], by rw [old e]; simp⟩ }
  refine I.un (t' := tk) un fun b o e => ?_
  by_cases hd : b = dx
  · subst hd
    rw [upd_same] at e
    cases e
    exact exd_ok hn r
  · rw [upd_ne hd] at e
    by_cases hb : b = x
    · subst hb
      rw [upd_same] at e
      cases e
      exact exo_ok hx
    · rw [upd_ne hb] at e
      exact (I.hok b o e).stay (fun c v _ z => kp c v z) (fun c hc => old hc) (fun c xs hc => old hc)
end
section
variable {T : Type} {k : Kx} {C : Cell T} {X : Cx} {e : Expr} {p pos : Pos} {fa : Env → M T D}
def eOpq (fa : Env → M T D) : Env → M T D := fun ρ => bnd (fa ρ) fun d => match d with
  | .str _ => ret .opq
  | _ => fun _ => none
/-- NoTask(e) -/
theorem ed_opq (Nt : NtC X.prog X.K k.oc) (hm : X.mg "NoTask" = some (.ref k.oc)) (hs : X.mg "super" = none) (htop : (X.prog.main.scope.names.lookup ("super" : Str)).isSome = false) (hr : Room 3 X.A) (ha : ED k C X e fa) (hg : Gl X "NoTask" := by rfl)
    (he : starEach (e :: []) X.env = (false, eval e X.env) :: starEach [] X.env := by rfl) (hpl : (backTo pos (starEach [] X.env)).any (·.1) = false := by rfl) : ED k C X (.Call (.Name "NoTask" p) [e] [] pos) (eOpq fa) :=
  ⟨fun pins s σ H Q I ⟨E0, En, H0, ρ, t, d, t', R, ev, q⟩ => by
  obtain ⟨d1, t2, e1, e2⟩ := bnd_some ev
  cases d1 with
  | str z =>
    obtain ⟨rfl, rfl⟩ := ret_some e2
    have hA : tA k C (fun ρ => bnd (fa ρ) fun x => bnd (ret ([] : List D)) fun xs => ret (x :: xs)) σ H fun vs H1 => ∃ H0', RS k C E0 En H0' H1 σ ρ t' ∧ Go C H0 H H0' H1 ∧ RpA k H0' [.str z] vs :=
      ⟨E0, En, H0, ρ, t, [.str z], t', R, by simp only [bnd, e1, ret], fun H1 H1' vs R1 g1 r1 => ⟨H1, R1, g1, r1⟩⟩
    refine wpAny_Call_Name_kw (ld_glob I hg hm ?_ (by decide))
    refine PySem.W.callWith_K (h₀ := X.base) I.ok.mod.kin Nt.kp (thn ((ea_cons ha ea_nil he).run pos pins s σ H _ I hA) fun us s1 ⟨vs, H1, I1, r1, H0', R1, g1, ra⟩ => ⟨I1.kIn, ?_⟩) he hpl
    show wpAny _ _ (call (.ref k.oc) us) _ _ _
    cases ra with
    | cons rz ra =>
      cases ra
      cases rz
      cases r1 with
      | @cons _ u _ ur rv rr =>
        cases rr
        obtain ⟨tok, rfl⟩ : ∃ tok, u = .str z tok := rv
        obtain ⟨nm, N', qn, bs, bm, hdct, sn, sub, ab, col, dd, k0, k1, k2, k3, k5, hC, hT⟩ := PySem.W.excInit_of I1.kIn Nt.ini
        obtain ⟨fI, cc, cda, oc, od, doc, pm, ct, an, osl, hf, hisf, _⟩ := Nt.fn
        have tI : PySem.W.typeIn X.K (.ref fI) = some (.type "function") := beq_iff_eq.mp hisf
        obtain ⟨mb, hmb, hbb⟩ := I1.ok.mod.blt
        have bs1 : ∀ b o, X.base.get? b = some o → s1.heap.get? b = some o := fun b o e => (I1.bs b o e).1
        obtain ⟨hp, g, dr, tk, os⟩ := s1
        have kk : ∀ b o, hp.get? b = some o → ((hp.push (PySem.W.kdv_tup [.str z tok])).push (PySem.HandSPX.excO k.oc hp.objs.size)).get? b = some o := fun b o e => Heap.get?_push_of_some _ (Heap.get?_push_of_some _ e)
        have hx : ((hp.push (PySem.W.kdv_tup [.str z tok])).push (PySem.HandSPX.excO k.oc hp.objs.size)).get? (hp.objs.size + 1) = some (excObj k.oc hp.objs.size none .none) := by heap_get
        have nK : X.K.lookup (hp.objs.size + 1) = none := by
          cases e : X.K.lookup (hp.objs.size + 1) with
          | none => rfl
          | some o => exact absurd (Heap.lt_size (I1.kIn _ _ e)) (by show ¬ hp.objs.size + 1 < hp.objs.size; omega)
        refine wpAny_call (PySem.HandSPX.call_own PySem.F.excBase_LookupError hT hC (PySem.W.looks_findIn I1.kIn hf) (fun self => PySem.W.bind_fn I1.kIn self tI) (show 1 ≤ sizeLine by rw [sizeLine_eq]; decide) ?_)
        refine nt_init Nt (I1.kIn.keeps kk) ((I1.ok.mod.nolimit.keeps bs1).keeps kk) ((I1.ok.mod.glob.keeps bs1).keeps kk) hs ((hmb.keeps bs1).keeps kk) (hbb _ (by decide)) ?_ htop hf hx nK fun h' tk' dx t1 k' hd hne hx' hn' => ?_
        · exact (hr.make k.oc [.str z tok] []).depth
        · have zd : hp.objs.size ≤ dx := by
            rw [Heap.size_push, Heap.size_push] at hd
            omega
          have fx : H1 (hp.objs.size + 1) = none := I1.hok.fresh (Nat.le_succ _)
          have fd : H1 dx = none := I1.hok.fresh zd
          obtain ⟨R2, g2⟩ := R1.new (exo (hp.objs.size + 1) k.oc (some dx)) fx (fun ps z => exo_tbl z)
          obtain ⟨R3, g3⟩ := R2.new (p := dx) (exd dx [("name", .str z)]) (by rw [upd_ne hne]; exact fd) (fun ps z => by cases (show HO.ext _ = HO.tbl ps from z))
          refine ⟨rfl, .ref (hp.objs.size + 1), _, laid2 (fs := [("name", .str z)]) I1 (fun b o e => k' b o (fun y => ?_) (kk b o e)) (Nat.le_succ _) zd hne hx' hn' (relO_put (fs := []) (show RelV (.str z) (.str z tok) from ⟨tok, rfl⟩) fun g => True.intro), rfl, q _ _ _ R3 (g1.trans (g2.trans g3)) (.opq (dx := dx) (fs := [("name", .str z)]) (by rw [upd_ne (Ne.symm hne)]; exact upd_same) upd_same)⟩
          have l := Heap.lt_size (show hp.get? b = some o from e)
          rw [y] at l
          exact absurd (Nat.le_succ hp.objs.size) (Nat.not_le.mpr l)
  | _ => cases e2⟩
end
end MM
/-! E5 -/
namespace MM
open PySem PySem.Spec PyProof.Rows L2
/-! ## f(k = v, ..), all parameters by keywords, the last one first -/
section
variable {T : Type} {k : Kx} {C : Cell T} {C' : Cell Unit} {X : Cx} {a : Expr} {pos p kpos : Pos} {x : Str} {nm : Option Str} {n lv : Nat} {fa : Env → M T D} {fl : Env → M T (List D)} {kws : List Keyword}
abbrev EKw (k : Kx) (C : Cell T) (X : Cx) (kws : List Keyword) (f : Env → M T (List D)) : Prop := PK X kws (tA k C f)
theorem kw_nil : EKw k C X [] (fun _ => ret []) := ⟨fun pos pins s σ H Q I ⟨E0, En, H0, ρ, t, d, t', R, ev, q⟩ => by
  obtain ⟨rfl, rfl⟩ := ret_some ev
  exact pk_nil.run pos pins s σ H Q I (q _ _ _ R Go.refl .nil)⟩
theorem kw_cons (ha : ED k C X a fa) (hr : EKw k C X kws fl) : EKw k C X (⟨nm, a, kpos⟩ :: kws) (fun ρ => bnd (fa ρ) fun x => bnd (fl ρ) fun xs => ret (x :: xs)) := ⟨fun pos pins s σ H Q I ⟨E0, En, H0, ρ, t, d, t', R, ev, q⟩ => by
  obtain ⟨x, t1, e1, ev1⟩ := bnd_some ev
  obtain ⟨xs, t2, e2, ev2⟩ := bnd_some ev1
  obtain ⟨rfl, rfl⟩ := ret_some ev2
  exact (pk_cons ha hr).run pos pins s σ H Q I ⟨E0, En, H0, ρ, t, x, t1, R, e1, fun H1 H1' v R1 g1 r1 => ⟨E0, En, H1, ρ, t1, xs, _, R1, e2, fun H2 H2' vs R2 g2 r2 => q _ _ _ R2 (g1.trans g2) (.cons (r1.ex g2.base) r2)⟩⟩⟩
structure Df2 (P : Program) (w : World) (K : PySem.W.Frag) (mg : Str → Option Value) (base : Heap) (k : Kx) (C : Cell T) (lv : Nat) (x : Str) (n : Nat) (ks : List Str) (G : List D → M T D) : Prop where
  ex : ∃ f fd ps, FnOk P w K mg base CX0 lv f fd ps (spD k C n G) ∧ mg x = some (.ref f) ∧ PySem.W.keepIn K (.ref f) = true ∧ Binds K fd ps [] ∧ KBn K fd ps 0 ks (fun _ ws => ws.reverse) (fun _ zs => zs.reverse)
section
variable {P : Program} {w : World} {K : PySem.W.Frag} {mg : Str → Option Value} {base : Heap} {ks : List Str}
theorem Df2.df {G : List D → M T D} (F : Df2 P w K mg base k C lv x n ks G) : Df P w K mg base k C lv x n G := by
  obtain ⟨f, fd, ps, a, b, c, d, _⟩ := F.ex
  exact ⟨f, fd, ps, a, b, c, d⟩
theorem Df2.pure {C : Cell Unit} {m : Nat} {F : FS Unit} (h : Df2 P w K mg base k C lv x n ks (runD n m F)) : Df2 P w K mg base k C lv x n ks (pureG fun ds => (runD n m F ds ()).map (·.1)) := by
  obtain ⟨f, fd, ps, a, b, c, d, e⟩ := h.ex
  refine ⟨f, fd, ps, a.imp (spD.imp fun ds t r _ e => ?_), b, c, d, e⟩
  cases t
  have e : lft ((runD n m F ds ()).map (·.1)) () = some r := e
  cases q : runD n m F ds () with
  | none => rw [q] at e; cases e
  | some p =>
    rw [q] at e
    cases e
    rfl
theorem df2_of {st : Stmt} {N ps : List Str} {F : FS T} (Fd : Ds K mg x st ps) (S : FnScope N ps (defScope st)) (hl : ps.length ≤ N.length)
    (hk : ∀ (kV doc pm : Value) (an : Option Addr) (cdv ct : Value) (ws : List Value), ws.length = ps.length → bindArgs (PySem.W.fnOf x x (defArgs st) (defBody st) (defScope st) .none kV doc pm an cdv ct) ⟨[], ps.reverse.zip ws⟩ = Pure.pure (ps.zip ws.reverse))
    (hb : ∀ (f : Addr) (cdv : Value) (A : Around) (outer : List PySem.Env) (s : Shared) (H : Hp) (E : XK), Room lv (A.deeper (envOfC x (defScope st) s.heap.objs.size f cdv)) → SB k C (cx0 P w K mg base N x st f cdv A outer s H E) (defBody st) F) :
    Df2 P w K mg base k C (lv + 1) x ps.length ps.reverse (runD ps.length (N.length - ps.length) F) := by
  obtain ⟨f, fd, a, b, c⟩ := Fd.ex
  refine ⟨f, fd, ps, fn_ok a S hl (hb f), b, a.kp, c, ⟨fun s us ws X l1 l2 => ?_, fun r1 r2 => r2.reverse⟩⟩
  obtain ⟨oc, od, dV, kV, doc, pm, an, cdv, ct, osl, rfl, lk, hcd, hD, hK⟩ := a.ex
  rcases hD with ⟨_, rfl⟩ | ⟨e, _⟩
  · rw [List.length_eq_zero_iff.mp l1]
    exact .of_eq (hk kV doc pm an cdv ct ws (l2.trans List.length_reverse))
  · exact absurd rfl e
end
theorem ed_kw {ks : List Str} {G : List D → Option D} {fl : Env → M T (List D)} (le : CellLe C' C) (F : Df2 X.prog X.w X.K X.mg X.base k C' lv x n ks (pureG G)) (hr : Room lv X.A) (ha : EKw k C X kws fl) (hg : Gl X x := by rfl) (hdb : (x == ("__debug__" : Str)) = false := by decide)
    (hall : (backToKw pos (keywordEach kws X.env)).all (·.1.isSome) = true := by rfl) (hks : (backToKw pos (keywordEach kws X.env)).filterMap (·.1) = ks := by rfl) (hkl : ks.length = n := by rfl)
    (hpl : ((backTo pos (starEach [] X.env)).any (·.1) || (backToKw pos (keywordEach kws X.env)).any (·.1.isNone)) = false := by rfl) :
    ED k C X (.Call (.Name x p) [] kws pos) (fun ρ => bnd (fl ρ) fun ds => callP n G ds.reverse) := by
  obtain ⟨f, fd, ps, a, b, c, d, hb⟩ := F.ex
  refine ⟨fun pins s σ H Q I ⟨E0, En, H0, ρ, t, r, t', R, ev, q⟩ => ?_⟩
  obtain ⟨ds, t1, e1, e2⟩ := bnd_some ev
  unfold callP at e2
  obtain ⟨e3, rfl⟩ := lft_some e2
  split at e3
  · next hn =>
    refine wpAny_Call_Name_kw (ld_glob I hg b ?_ hdb)
    refine PySem.W.callWith_KW0 (h₀ := X.base) I.ok.mod.kin c hall (thn (ha.run pos pins s σ H (fun vs H1 => ∃ H0', RS k C E0 En H0' H1 σ ρ t' ∧ Go C H0 H H0' H1 ∧ RpA k H0' ds vs) I ⟨E0, En, H0, ρ, t, ds, t', R, e1, fun H1 H1' vs R1 g1 r1 => ⟨H1, R1, g1, r1⟩⟩) fun ws s2 ⟨zs, H2, I2, rz, H1, R1, g1, r1⟩ => ⟨I2.kIn, ?_⟩) hpl
    rw [hks]
    refine run_fnN (vs := []) (E := fun _ _ _ => False) a hr hb pass0 I2 .nil rz rfl (by rw [hkl, ← r1.length, ← hn, List.length_reverse]) ?_
    refine ⟨H1, ds.reverse, (), r, (), R1.sub, ⟨fun a m => ⟨(R1.nomut (le.mu a m)).2, (R1.nomut (le.mu a m)).1⟩, fun a ps e => (le.tb a (R1.tb a ps e)).elim id fun q => absurd e (q _ _ ps R1.rep)⟩, le.rep _ _ R1.rep, r1.reverse, hn, by unfold pureG; rw [e3]; rfl, fun H2 H2' v g2 s2 rep2 rv => ?_⟩
    have g3 := le.go g2
    exact q _ _ _ (R1.step g3 s2 (le.back _ _ _ R1.rep rep2 g2.act)) (g1.trans g3) rv
  · cases e3
end
end MM
/-! E6 -/
namespace MM
open PySem PySem.Spec PyProof.Rows L2
@[simp] abbrev cKw {T : Type} (n : Nat) (G : List D → Option D) (f : FL T) : FD T := fun ρ => bnd (f ρ) fun ds => callP n G ds.reverse
section
variable {k : Kx} {C : Cell Unit} {P : Program} {w : World} {K : PySem.W.Frag} {mg : Str → Option Value} {base : Heap}
theorem d2_settling (B : Bi mg) (Dd : Ds K mg "settling" (top 33) ["book", "ready", "seating"]) (c_tupled : Df P w K mg base k C 9 "tupled" 1 (pureG (G_tupled 8))) (c_next_shift : Df P w K mg base k C 14 "next_shift" 3 (pureG
    G_next_shift)) (c_shifted : Df P w K mg base k C 11 "shifted" 2 (pureG G_shifted)) : Df2 P w K mg base k C (14 + 1) "settling" 3 ["seating", "ready", "book"] (pureG G_settling) :=
  Df2.pure (df2_of (N := N_settling) (lv := 14) (F := F_settling) Dd (C8.fnScope_by (by decide)) (by decide) (fun kV doc pm an cdv ct ws hl => match ws, hl with | [a0, a1, a2], _ => by rfl) fun f cdv A outer s H E hr => have nd : (N_settling).Nodup := by decide
    sb_cons (ss_par2 4 5 rfl nd (ev_val (ed_callP le c_tupled (hr.mono (by decide)) (ea_cons (ed_var 2) (ea_nil)))) (ev_L (el_lst (ea_nil)))) (sb_cons (ss_set 3 nd (ed_callP le c_next_shift (hr.mono (by decide)) (ea_cons (ed_var 0)
    (ea_cons (ed_var 1) (ea_cons (ed_var 4) (ea_nil)))))) (sb_cons (ss_while 1000 PassesOwn.never (et_notN (eb_var 3)) (sb_cons (ss_app 5 (ed_var 3)) (sb_cons (ss_set 4 nd (ed_callP le c_shifted (hr.mono (by decide)) (ea_cons
    (ed_var 4) (ea_cons (ed_var 3) (ea_nil))))) (sb_one (ss_set 3 nd (ed_callP le c_next_shift (hr.mono (by decide)) (ea_cons (ed_var 0) (ea_cons (ed_var 1) (ea_cons (ed_var 4) (ea_nil)))))))))) (sb_one (ss_ret (ed_tt call_tupF
    c_tuple B.tuple (by rfl) (eb_var 5)))))))

theorem d2_is_settling (B : Bi mg) (Dd : Ds K mg "is_settling" (top 34) ["book", "ready", "seating", "thing"]) (O : OqC K k.oc) (c_tupled : Df P w K mg base k C 9 "tupled" 1 (pureG (G_tupled 8))) (c_is_shift : Df P w K mg base k C
    12 "is_shift" 4 (pureG G_is_shift)) (c_shifted : Df P w K mg base k C 11 "shifted" 2 (pureG G_shifted)) (c_is_settled : Df P w K mg base k C 15 "is_settled" 3 (pureG G_is_settled)) : Df2 P w K mg base k C (15 + 1)
    "is_settling" 4 ["thing", "seating", "ready", "book"] (pureG G_is_settling) :=
  Df2.pure (df2_of (N := N_is_settling) (lv := 15) (F := F_is_settling) Dd (C8.fnScope_by (by decide)) (by decide) (fun kV doc pm an cdv ct ws hl => match ws, hl with | [a0, a1, a2, a3], _ => by rfl) fun f cdv A outer s H E hr => have nd : (N_is_settling).Nodup := by decide
    sb_cons (ss_if (et_not (et_val (ed_isi O "tuple" B.isinstance B.tuple (eb_var 3)))) (sb_one (ss_ret (ed_bl))) (sb_nil)) (sb_cons (ss_set 4 nd (ed_callP le c_tupled (hr.mono (by decide)) (ea_cons (ed_var 2) (ea_nil)))) (sb_cons
    (ss_for PassesOwn.never rfl (wi_seq (ed_var 3)) (gt_name 5 nd) (sb_cons (ss_if (et_not (et_val (ed_callP le c_is_shift (hr.mono (by decide)) (ea_cons (ed_var 0) (ea_cons (ed_var 1) (ea_cons (ed_var 4) (ea_cons (ed_var 5)
    (ea_nil)))))))) (sb_one (ss_ret (ed_bl))) (sb_nil)) (sb_one (ss_set 4 nd (ed_callP le c_shifted (hr.mono (by decide)) (ea_cons (ed_var 4) (ea_cons (ed_var 5) (ea_nil)))))))) (sb_one (ss_ret (ed_callP le c_is_settled (hr.mono
    (by decide)) (ea_cons (ed_var 0) (ea_cons (ed_var 1) (ea_cons (ed_var 4) (ea_nil))))))))))

/-! ### _law_by_hand_right -/
abbrev N__law_by_hand_right : List Str := ["_law_some_so", "_law_got", "_law_due", "_law_odd", "_law_rows_so", "_law_soft", "_law_own", "_law_web_here", "_law_first_so", "_law_seats_so"]
def F__law_by_hand_right : FS Unit := seqS (sUnp (bd3 7 8 9) (eTup (aC (cP0 G__law_kit) (aC (eTup (aC (eTup (aC (cS "v") (aC (cS "a") (aN)))) (aC (eTup (aC (cS "x") (aC (cS "b") (aN)))) (aC (eTup (aC (cS "y") (aC (cS "b") (aN))))
    (aN))))) (aC (eTup (aC (eTup (aC (cS "p") (aC (cS "x") (aN)))) (aC (eTup (aC (cS "q") (aC (cS "y") (aN)))) (aN)))) (aN)))))) (seqS (sSet 0 (oL (lLst (aC (eTup (aC (eTup (aC (cS "v") (aC (cS "p") (aC (cS "x") (aC (cS "q")
    (aN)))))) (aN))) (aC (eTup (aC (eTup (aC (cS "v") (aC (cS "p") (aN)))) (aC (eTup (aC (cS "x") (aC (cS "q") (aN)))) (aN)))) (aN)))))) (seqS (sSet 0 (oL (l2 catL (xB 0) (oL (lLst (aC (eTup (aC (eTup (aC (cS "v") (aC (cS "p")
    (aN)))) (aN))) (aC (eTup (aN)) (aC (eTup (aC (eTup (aC (cS "x") (aC (cS "q") (aN)))) (aN))) (aN))))))))) (seqS (sSet 0 (oL (l2 catL (xB 0) (oL (lLst (aC (eTup (aC (eTup (aC (cS "v") (aC (cS "p") (aN)))) (aC (eTup (aC (cS "x")
    (aC (cS "q") (aN)))) (aC (eTup (aC (cS "y") (aC (cS "q") (aN)))) (aN))))) (aN))))))) (seqS (sSet 0 (oL (l2 catL (xB 0) (oL (lLst (aC (eTup (aC (eTup (aC (cS "v") (aC (cS "p") (aN)))) (aC (eTup (aC (cS "v") (aC (cS "p") (aN))))
    (aN)))) (aN))))))) (seqS (sSetL 1 (lLst (aC (oL (lcF (iSeq (xV 0)) (bd1 6) (ifT) (cP 4 G_is_settling (aC (xV 7) (aC (xV 8) (aC (xV 9) (aC (xV 6) (aN)))))) [6])) (aN)))) (seqS (sSetL 1 (l2 catL (xB 1) (oL (lLst (aC (oL (lcF
    (iSeq (eTup (aC (eTup (aN)) (aC (eTup (aC (eTup (aC (cS "v") (aC (cS "p") (aN)))) (aN))) (aN))))) (bd1 6) (ifT) (cP 4 G_is_settling (aC (xV 7) (aC (xV 8) (aC (eTup (aC (eTup (aC (cS "p") (aC (cS "v") (aN)))) (aC (eTup (aC (cS
    "q") (aC (cS "x") (aN)))) (aN)))) (aC (xV 6) (aN)))))) [6])) (aN)))))) (seqS (sSetL 2 (lLst (aC (oL (lLst (aC (cB true) (aC (cB true) (aC (cB false) (aC (cB false) (aC (cB false) (aC (cB false) (aC (cB false) (aN)))))))))) (aC
    (oL (lLst (aC (cB true) (aC (cB false) (aN))))) (aN))))) (seqS (sSet 3 (oL (lLst (aC (cN) (aC (cI 0) (aC (cB true) (aC (oL (lLst (aN))) (aC (oL (lLst (aC (eTup (aC (cS "v") (aC (cS "p") (aC (cS "x") (aC (cS "q") (aN))))))
    (aN)))) (aC (eTup (aC (cS "v") (aC (cS "p") (aC (cS "x") (aC (cS "q") (aN)))))) (aN)))))))))) (seqS (sSet 3 (oL (l2 catL (xB 3) (oL (lLst (aC (eTup (aC (oL (lLst (aC (cS "v") (aC (cS "p") (aC (cS "x") (aC (cS "q") (aN)))))))
    (aN))) (aC (eTup (aC (eTup (aC (cS "v") (aC (cS "p") (aC (cS "x") (aC (cS "q") (aN)))))) (aC (cN) (aN)))) (aC (eTup (aC (cN) (aN))) (aN))))))))) (seqS (sSet 3 (oL (l2 catL (xB 3) (oL (lLst (aC (eTup (aC (eTup (aN)) (aN))) (aC
    (eTup (aC (eTup (aC (cS "v") (aC (cS "p") (aC (cS "x") (aC (cS "q") (aN)))))) (aC (eTup (aN)) (aN)))) (aC (eTup (aC (eTup (aC (cS "v") (aC (cS "p") (aC (cS "x") (aC (cI 1) (aN)))))) (aN))) (aN))))))))) (seqS (sSet 3 (oL (l2
    catL (xB 3) (oL (lLst (aC (eOpq (cS "v")) (aC (eTup (aC (eOpq (cS "v")) (aN))) (aC (cS "vpxq") (aN))))))))) (seqS (sSetL 1 (l2 catL (xB 1) (oL (lLst (aC (oL (lcF (iSeq (xV 3)) (bd1 6) (ifT) (cP 4 G_is_settling (aC (xV 7) (aC
    (xV 8) (aC (xV 9) (aC (xV 6) (aN)))))) [6])) (aN)))))) (seqS (sSetL 1 (l2 catL (xB 1) (oL (lLst (aC (cP 3 G_settling (aC (xV 7) (aC (xV 8) (aC (eTup (aC (eTup (aC (cS "p") (aC (cS "v") (aN)))) (aC (eTup (aC (cS "q") (aC (cS
    "x") (aN)))) (aN)))) (aN))))) (aN)))))) (seqS (sSetL 1 (l2 catL (xB 1) (oL (lLst (aC (cP 3 G_settling (aC (xV 7) (aC (eTup (aN)) (aC (eTup (aN)) (aN))))) (aC (cP 3 G_settling (aC (eTup (aC (eTup (aN)) (aC (eTup (aN)) (aN))))
    (aC (eTup (aN)) (aC (eTup (aN)) (aN))))) (aN))))))) (seqS (sSetL 2 (l2 catL (xB 2) (oL (lLst (aC (oL (l2 repL (oL (lLst (aC (cB false) (aN)))) (o1 lenD (xB 3)))) (aC (eTup (aN)) (aC (eTup (aN)) (aC (eTup (aN)) (aN)))))))))
    (seqS (sSet 4 (oL (lLst (aC (eTup (aC (eTup (aC (cS "v") (aC (cS "p") (aN)))) (aC (eTup (aC (cS "x") (aC (cS "q") (aN)))) (aN)))) (aC (eTup (aC (eTup (aC (cS "x") (aC (cS "p") (aN)))) (aC (eTup (aC (cS "v") (aC (cS "p") (aC
    (cS "x") (aC (cS "q") (aN)))))) (aN)))) (aC (eTup (aC (eTup (aC (cS "y") (aC (cS "q") (aN)))) (aC (eTup (aC (cS "v") (aC (cS "p") (aN)))) (aC (eTup (aC (cS "x") (aC (cS "q") (aN)))) (aN))))) (aN))))))) (seqS (sSet 4 (oL (l2
    catL (xB 4) (oL (lLst (aC (eTup (aC (eTup (aC (cS "y") (aC (cS "q") (aN)))) (aC (eTup (aC (cS "x") (aC (cS "p") (aN)))) (aC (eTup (aC (cS "v") (aC (cS "p") (aC (cS "x") (aC (cS "q") (aN)))))) (aN))))) (aC (eTup (aC (eTup (aC
    (cS "y") (aC (cS "q") (aN)))) (aN))) (aN)))))))) (seqS (sApp 1 (oL (lcF (iSeq (xV 4)) (bd1 6) (ifT) (cP 4 G_is_settling (aC (xV 7) (aC (xV 8) (aC (eTup (aN)) (aC (xV 6) (aN)))))) [6]))) (seqS (sApp 2 (oL (lLst (aC (cB true)
    (aC (cB true) (aC (cB true) (aC (cB true) (aC (cB false) (aN))))))))) (seqS (sApp 1 (cP 4 G__law_shows (aC (xV 7) (aC (xV 8) (aC (eTup (aN)) (aC (cP 3 G_settling (aC (xV 7) (aC (xV 8) (aC (eTup (aN)) (aN))))) (aN))))))) (seqS
    (sApp 2 (cB true)) (seqS (sSet 5 (oL (lLst (aC (cP 1 (G__law_lists 8) (aC (xV 7) (aN))) (aC (cP 1 (G__law_lists 8) (aC (xV 8) (aN))) (aC (cP 1 (G__law_lists 8) (aC (xV 9) (aN))) (aN))))))) (seqS (sFor (iSeq (eTup (aC (xV 5)
    (aC (oL (lLst (aC (cP 1 G__law_half (aC (xV 7) (aN))) (aC (eTup (aC (oL (lLst (aC (cS "v") (aC (cS "a") (aN))))) (aC (eTup (aC (cS "x") (aC (cS "b") (aN)))) (aC (oL (lLst (aC (cS "y") (aC (cS "b") (aN))))) (aN))))) (aC (eTup
    (aC (oL (lLst (aC (cS "p") (aC (cS "x") (aN))))) (aC (eTup (aC (cS "q") (aC (cS "y") (aN)))) (aN)))) (aN)))))) (aN))))) (bd1 6) (seqS (sSetL 1 (l2 catL (xB 1) (oL (lLst (aC (cKw 4 G_is_settling (aC (o2 idxL (xB 0) (cI 0)) (aC
    (o2 idxL (xB 6) (cI 2)) (aC (o2 idxL (xB 6) (cI 1)) (aC (o2 idxL (xB 6) (cI 0)) (aN)))))) (aN)))))) (sSetL 1 (l2 catL (xB 1) (oL (lLst (aC (cP 4 G__law_shows (aC (xV 7) (aC (xV 8) (aC (xV 9) (aC (cKw 3 G_settling (aC (o2 idxL
    (xB 6) (cI 2)) (aC (o2 idxL (xB 6) (cI 1)) (aC (o2 idxL (xB 6) (cI 0)) (aN))))) (aN)))))) (aN)))))))) (sRet (cP 2 (G__law_same 8) (aC (oL (l2 catL (xB 1) (xB 5))) (aC (oL (l2 catL (oL (l2 catL (xB 2) (oL (l2 repL (oL (lLst (aC
    (cB true) (aN)))) (cI 4))))) (oL (lLst (aC (cP 1 (G__law_lists 8) (aC (xV 7) (aN))) (aC (cP 1 (G__law_lists 8) (aC (xV 8) (aN))) (aC (cP 1 (G__law_lists 8) (aC (xV 9) (aN))) (aN)))))))) (aN))))))))))))))))))))))))))))
def G__law_by_hand_right (ds : List D) : Option D := (runD 0 10 F__law_by_hand_right ds ()).map (·.1)
theorem d__law_by_hand_right (B : Bi mg) (Dd : Ds K mg "_law_by_hand_right" (top 53) []) (Nt : NtC P K k.oc) (hmN : mg "NoTask" = some (.ref k.oc)) (hmS : mg "super" = none) (htop : (P.main.scope.names.lookup ("super" :
    Str)).isSome = false) (c__law_kit : Df P w K mg base k C 1 "_law_kit" 0 (pureG G__law_kit)) (c_is_settling : Df2 P w K mg base k C 16 "is_settling" 4 ["thing", "seating", "ready", "book"] (pureG G_is_settling)) (c_settling :
    Df2 P w K mg base k C 15 "settling" 3 ["seating", "ready", "book"] (pureG G_settling)) (c__law_shows : Df P w K mg base k C 2 "_law_shows" 4 (pureG G__law_shows)) (c__law_lists : Df P w K mg base k C 9 "_law_lists" 1 (pureG
    (G__law_lists 8))) (c__law_half : Df P w K mg base k C 10 "_law_half" 1 (pureG G__law_half)) (c__law_same : Df P w K mg base k C 9 "_law_same" 2 (pureG (G__law_same 8))) : Df P w K mg base k C (16 + 1) "_law_by_hand_right" 0
    (pureG G__law_by_hand_right) :=
  (df_of (N := N__law_by_hand_right) (lv := 16) (F := F__law_by_hand_right) Dd (C8.fnScope_by (by decide)) (by decide) fun f cdv A outer s H E hr => have nd : (N__law_by_hand_right).Nodup := by decide
    sb_cons (ss_unp (ed_tup (ea_cons (ed_callP0 le c__law_kit (hr.mono (by decide))) (ea_cons (ed_tup (ea_cons (ed_tup (ea_cons (ed_str) (ea_cons (ed_str) (ea_nil)))) (ea_cons (ed_tup (ea_cons (ed_str) (ea_cons (ed_str) (ea_nil))))
    (ea_cons (ed_tup (ea_cons (ed_str) (ea_cons (ed_str) (ea_nil)))) (ea_nil))))) (ea_cons (ed_tup (ea_cons (ed_tup (ea_cons (ed_str) (ea_cons (ed_str) (ea_nil)))) (ea_cons (ed_tup (ea_cons (ed_str) (ea_cons (ed_str) (ea_nil))))
    (ea_nil)))) (ea_nil))))) (gt_three 7 8 9 rfl nd)) (sb_cons (ss_set 0 nd (ed_ofL (el_lst (ea_cons (ed_tup (ea_cons (ed_tup (ea_cons (ed_str) (ea_cons (ed_str) (ea_cons (ed_str) (ea_cons (ed_str) (ea_nil)))))) (ea_nil)))
    (ea_cons (ed_tup (ea_cons (ed_tup (ea_cons (ed_str) (ea_cons (ed_str) (ea_nil)))) (ea_cons (ed_tup (ea_cons (ed_str) (ea_cons (ed_str) (ea_nil)))) (ea_nil)))) (ea_nil)))))) (sb_cons (ss_set 0 nd (ed_ofL (el_cat (eb_var 0)
    (eb_of (ed_ofL (el_lst (ea_cons (ed_tup (ea_cons (ed_tup (ea_cons (ed_str) (ea_cons (ed_str) (ea_nil)))) (ea_nil))) (ea_cons (ed_tup (ea_nil)) (ea_cons (ed_tup (ea_cons (ed_tup (ea_cons (ed_str) (ea_cons (ed_str) (ea_nil))))
    (ea_nil))) (ea_nil)))))))))) (sb_cons (ss_set 0 nd (ed_ofL (el_cat (eb_var 0) (eb_of (ed_ofL (el_lst (ea_cons (ed_tup (ea_cons (ed_tup (ea_cons (ed_str) (ea_cons (ed_str) (ea_nil)))) (ea_cons (ed_tup (ea_cons (ed_str) (ea_cons
    (ed_str) (ea_nil)))) (ea_cons (ed_tup (ea_cons (ed_str) (ea_cons (ed_str) (ea_nil)))) (ea_nil))))) (ea_nil)))))))) (sb_cons (ss_set 0 nd (ed_ofL (el_cat (eb_var 0) (eb_of (ed_ofL (el_lst (ea_cons (ed_tup (ea_cons (ed_tup
    (ea_cons (ed_str) (ea_cons (ed_str) (ea_nil)))) (ea_cons (ed_tup (ea_cons (ed_str) (ea_cons (ed_str) (ea_nil)))) (ea_nil)))) (ea_nil)))))))) (sb_cons (ss_setL 1 nd (el_lst (ea_cons (ed_ofL (el_lc [("_law_own", 6)] rfl nd
    (wi_seq (ed_var 0)) (blkOk_by (by rfl)) (fun _ _ _ _ _ => gt_name 6 nd) (fun _ _ _ _ _ => pts_t0) (fun _ _ _ _ _ => ed_callP le c_is_settling.df (hr.mono (by decide)) (ea_cons (ed_var 7) (ea_cons (ed_var 8) (ea_cons (ed_var 9)
    (ea_cons (ed_var 6) (ea_nil)))))))) (ea_nil)))) (sb_cons (ss_setL 1 nd (el_cat (eb_var 1) (eb_of (ed_ofL (el_lst (ea_cons (ed_ofL (el_lc [("_law_own", 6)] rfl nd (wi_seq (ed_tup (ea_cons (ed_tup (ea_nil)) (ea_cons (ed_tup
    (ea_cons (ed_tup (ea_cons (ed_str) (ea_cons (ed_str) (ea_nil)))) (ea_nil))) (ea_nil))))) (blkOk_by (by rfl)) (fun _ _ _ _ _ => gt_name 6 nd) (fun _ _ _ _ _ => pts_t0) (fun _ _ _ _ _ => ed_callP le c_is_settling.df (hr.mono (by
    decide)) (ea_cons (ed_var 7) (ea_cons (ed_var 8) (ea_cons (ed_tup (ea_cons (ed_tup (ea_cons (ed_str) (ea_cons (ed_str) (ea_nil)))) (ea_cons (ed_tup (ea_cons (ed_str) (ea_cons (ed_str) (ea_nil)))) (ea_nil)))) (ea_cons (ed_var
    6) (ea_nil)))))))) (ea_nil))))))) (sb_cons (ss_setL 2 nd (el_lst (ea_cons (ed_ofL (el_lst (ea_cons (ed_bl) (ea_cons (ed_bl) (ea_cons (ed_bl) (ea_cons (ed_bl) (ea_cons (ed_bl) (ea_cons (ed_bl) (ea_cons (ed_bl) (ea_nil))))))))))
    (ea_cons (ed_ofL (el_lst (ea_cons (ed_bl) (ea_cons (ed_bl) (ea_nil))))) (ea_nil))))) (sb_cons (ss_set 3 nd (ed_ofL (el_lst (ea_cons (ed_non) (ea_cons (ed_int) (ea_cons (ed_bl) (ea_cons (ed_ofL (el_lst (ea_nil))) (ea_cons
    (ed_ofL (el_lst (ea_cons (ed_tup (ea_cons (ed_str) (ea_cons (ed_str) (ea_cons (ed_str) (ea_cons (ed_str) (ea_nil)))))) (ea_nil)))) (ea_cons (ed_tup (ea_cons (ed_str) (ea_cons (ed_str) (ea_cons (ed_str) (ea_cons (ed_str)
    (ea_nil)))))) (ea_nil)))))))))) (sb_cons (ss_set 3 nd (ed_ofL (el_cat (eb_var 3) (eb_of (ed_ofL (el_lst (ea_cons (ed_tup (ea_cons (ed_ofL (el_lst (ea_cons (ed_str) (ea_cons (ed_str) (ea_cons (ed_str) (ea_cons (ed_str)
    (ea_nil))))))) (ea_nil))) (ea_cons (ed_tup (ea_cons (ed_tup (ea_cons (ed_str) (ea_cons (ed_str) (ea_cons (ed_str) (ea_cons (ed_str) (ea_nil)))))) (ea_cons (ed_non) (ea_nil)))) (ea_cons (ed_tup (ea_cons (ed_non) (ea_nil)))
    (ea_nil)))))))))) (sb_cons (ss_set 3 nd (ed_ofL (el_cat (eb_var 3) (eb_of (ed_ofL (el_lst (ea_cons (ed_tup (ea_cons (ed_tup (ea_nil)) (ea_nil))) (ea_cons (ed_tup (ea_cons (ed_tup (ea_cons (ed_str) (ea_cons (ed_str) (ea_cons
    (ed_str) (ea_cons (ed_str) (ea_nil)))))) (ea_cons (ed_tup (ea_nil)) (ea_nil)))) (ea_cons (ed_tup (ea_cons (ed_tup (ea_cons (ed_str) (ea_cons (ed_str) (ea_cons (ed_str) (ea_cons (ed_int) (ea_nil)))))) (ea_nil)))
    (ea_nil)))))))))) (sb_cons (ss_set 3 nd (ed_ofL (el_cat (eb_var 3) (eb_of (ed_ofL (el_lst (ea_cons (ed_opq Nt hmN hmS htop (hr.mono (by decide)) (ed_str)) (ea_cons (ed_tup (ea_cons (ed_opq Nt hmN hmS htop (hr.mono (by decide))
    (ed_str)) (ea_nil))) (ea_cons (ed_str) (ea_nil)))))))))) (sb_cons (ss_setL 1 nd (el_cat (eb_var 1) (eb_of (ed_ofL (el_lst (ea_cons (ed_ofL (el_lc [("_law_own", 6)] rfl nd (wi_seq (ed_var 3)) (blkOk_by (by rfl)) (fun _ _ _ _ _
    => gt_name 6 nd) (fun _ _ _ _ _ => pts_t0) (fun _ _ _ _ _ => ed_callP le c_is_settling.df (hr.mono (by decide)) (ea_cons (ed_var 7) (ea_cons (ed_var 8) (ea_cons (ed_var 9) (ea_cons (ed_var 6) (ea_nil)))))))) (ea_nil)))))))
    (sb_cons (ss_setL 1 nd (el_cat (eb_var 1) (eb_of (ed_ofL (el_lst (ea_cons (ed_callP le c_settling.df (hr.mono (by decide)) (ea_cons (ed_var 7) (ea_cons (ed_var 8) (ea_cons (ed_tup (ea_cons (ed_tup (ea_cons (ed_str) (ea_cons
    (ed_str) (ea_nil)))) (ea_cons (ed_tup (ea_cons (ed_str) (ea_cons (ed_str) (ea_nil)))) (ea_nil)))) (ea_nil))))) (ea_nil))))))) (sb_cons (ss_setL 1 nd (el_cat (eb_var 1) (eb_of (ed_ofL (el_lst (ea_cons (ed_callP le c_settling.df
    (hr.mono (by decide)) (ea_cons (ed_var 7) (ea_cons (ed_tup (ea_nil)) (ea_cons (ed_tup (ea_nil)) (ea_nil))))) (ea_cons (ed_callP le c_settling.df (hr.mono (by decide)) (ea_cons (ed_tup (ea_cons (ed_tup (ea_nil)) (ea_cons
    (ed_tup (ea_nil)) (ea_nil)))) (ea_cons (ed_tup (ea_nil)) (ea_cons (ed_tup (ea_nil)) (ea_nil))))) (ea_nil)))))))) (sb_cons (ss_setL 2 nd (el_cat (eb_var 2) (eb_of (ed_ofL (el_lst (ea_cons (ed_ofL (el_rep (eb_of (ed_ofL (el_lst
    (ea_cons (ed_bl) (ea_nil))))) (eb_of (ed_b1 call_len c_len B.len (by rfl) (eb_var 3))))) (ea_cons (ed_tup (ea_nil)) (ea_cons (ed_tup (ea_nil)) (ea_cons (ed_tup (ea_nil)) (ea_nil)))))))))) (sb_cons (ss_set 4 nd (ed_ofL (el_lst
    (ea_cons (ed_tup (ea_cons (ed_tup (ea_cons (ed_str) (ea_cons (ed_str) (ea_nil)))) (ea_cons (ed_tup (ea_cons (ed_str) (ea_cons (ed_str) (ea_nil)))) (ea_nil)))) (ea_cons (ed_tup (ea_cons (ed_tup (ea_cons (ed_str) (ea_cons
    (ed_str) (ea_nil)))) (ea_cons (ed_tup (ea_cons (ed_str) (ea_cons (ed_str) (ea_cons (ed_str) (ea_cons (ed_str) (ea_nil)))))) (ea_nil)))) (ea_cons (ed_tup (ea_cons (ed_tup (ea_cons (ed_str) (ea_cons (ed_str) (ea_nil)))) (ea_cons
    (ed_tup (ea_cons (ed_str) (ea_cons (ed_str) (ea_nil)))) (ea_cons (ed_tup (ea_cons (ed_str) (ea_cons (ed_str) (ea_nil)))) (ea_nil))))) (ea_nil))))))) (sb_cons (ss_set 4 nd (ed_ofL (el_cat (eb_var 4) (eb_of (ed_ofL (el_lst
    (ea_cons (ed_tup (ea_cons (ed_tup (ea_cons (ed_str) (ea_cons (ed_str) (ea_nil)))) (ea_cons (ed_tup (ea_cons (ed_str) (ea_cons (ed_str) (ea_nil)))) (ea_cons (ed_tup (ea_cons (ed_str) (ea_cons (ed_str) (ea_cons (ed_str) (ea_cons
    (ed_str) (ea_nil)))))) (ea_nil))))) (ea_cons (ed_tup (ea_cons (ed_tup (ea_cons (ed_str) (ea_cons (ed_str) (ea_nil)))) (ea_nil))) (ea_nil))))))))) (sb_cons (ss_app 1 (ed_ofL (el_lc [("_law_own", 6)] rfl nd (wi_seq (ed_var 4))
    (blkOk_by (by rfl)) (fun _ _ _ _ _ => gt_name 6 nd) (fun _ _ _ _ _ => pts_t0) (fun _ _ _ _ _ => ed_callP le c_is_settling.df (hr.mono (by decide)) (ea_cons (ed_var 7) (ea_cons (ed_var 8) (ea_cons (ed_tup (ea_nil)) (ea_cons
    (ed_var 6) (ea_nil))))))))) (sb_cons (ss_app 2 (ed_ofL (el_lst (ea_cons (ed_bl) (ea_cons (ed_bl) (ea_cons (ed_bl) (ea_cons (ed_bl) (ea_cons (ed_bl) (ea_nil))))))))) (sb_cons (ss_app 1 (ed_callP le c__law_shows (hr.mono (by
    decide)) (ea_cons (ed_var 7) (ea_cons (ed_var 8) (ea_cons (ed_tup (ea_nil)) (ea_cons (ed_callP le c_settling.df (hr.mono (by decide)) (ea_cons (ed_var 7) (ea_cons (ed_var 8) (ea_cons (ed_tup (ea_nil)) (ea_nil)))))
    (ea_nil))))))) (sb_cons (ss_app 2 (ed_bl)) (sb_cons (ss_set 5 nd (ed_ofL (el_lst (ea_cons (ed_callP le c__law_lists (hr.mono (by decide)) (ea_cons (ed_var 7) (ea_nil))) (ea_cons (ed_callP le c__law_lists (hr.mono (by decide))
    (ea_cons (ed_var 8) (ea_nil))) (ea_cons (ed_callP le c__law_lists (hr.mono (by decide)) (ea_cons (ed_var 9) (ea_nil))) (ea_nil))))))) (sb_cons (ss_for PassesOwn.never rfl (wi_seq (ed_tup (ea_cons (ed_var 5) (ea_cons (ed_ofL
    (el_lst (ea_cons (ed_callP le c__law_half (hr.mono (by decide)) (ea_cons (ed_var 7) (ea_nil))) (ea_cons (ed_tup (ea_cons (ed_ofL (el_lst (ea_cons (ed_str) (ea_cons (ed_str) (ea_nil))))) (ea_cons (ed_tup (ea_cons (ed_str)
    (ea_cons (ed_str) (ea_nil)))) (ea_cons (ed_ofL (el_lst (ea_cons (ed_str) (ea_cons (ed_str) (ea_nil))))) (ea_nil))))) (ea_cons (ed_tup (ea_cons (ed_ofL (el_lst (ea_cons (ed_str) (ea_cons (ed_str) (ea_nil))))) (ea_cons (ed_tup
    (ea_cons (ed_str) (ea_cons (ed_str) (ea_nil)))) (ea_nil)))) (ea_nil)))))) (ea_nil))))) (gt_name 6 nd) (sb_cons (ss_setL 1 nd (el_cat (eb_var 1) (eb_of (ed_ofL (el_lst (ea_cons (ed_kw le c_is_settling (hr.mono (by decide))
    (kw_cons (ed_ix ix_lt ok_ix (eb_var 0) (eb_of (ed_int))) (kw_cons (ed_ix ix_lt ok_ix (eb_var 6) (eb_of (ed_int))) (kw_cons (ed_ix ix_lt ok_ix (eb_var 6) (eb_of (ed_int))) (kw_cons (ed_ix ix_lt ok_ix (eb_var 6) (eb_of
    (ed_int))) (kw_nil)))))) (ea_nil))))))) (sb_one (ss_setL 1 nd (el_cat (eb_var 1) (eb_of (ed_ofL (el_lst (ea_cons (ed_callP le c__law_shows (hr.mono (by decide)) (ea_cons (ed_var 7) (ea_cons (ed_var 8) (ea_cons (ed_var 9)
    (ea_cons (ed_kw le c_settling (hr.mono (by decide)) (kw_cons (ed_ix ix_lt ok_ix (eb_var 6) (eb_of (ed_int))) (kw_cons (ed_ix ix_lt ok_ix (eb_var 6) (eb_of (ed_int))) (kw_cons (ed_ix ix_lt ok_ix (eb_var 6) (eb_of (ed_int)))
    (kw_nil))))) (ea_nil)))))) (ea_nil)))))))))) (sb_one (ss_ret (ed_callP le c__law_same (hr.mono (by decide)) (ea_cons (ed_ofL (el_cat (eb_var 1) (eb_var 5))) (ea_cons (ed_ofL (el_cat (eb_of (ed_ofL (el_cat (eb_var 2) (eb_of
    (ed_ofL (el_rep (eb_of (ed_ofL (el_lst (ea_cons (ed_bl) (ea_nil))))) (eb_of (ed_int)))))))) (eb_of (ed_ofL (el_lst (ea_cons (ed_callP le c__law_lists (hr.mono (by decide)) (ea_cons (ed_var 7) (ea_nil))) (ea_cons (ed_callP le
    c__law_lists (hr.mono (by decide)) (ea_cons (ed_var 8) (ea_nil))) (ea_cons (ed_callP le c__law_lists (hr.mono (by decide)) (ea_cons (ed_var 9) (ea_nil))) (ea_nil))))))))) (ea_nil)))))))))))))))))))))))))))))).pure

end
end MM
/-! E10 -/
section
set_option maxHeartbeats 0
namespace MM
open PySem PySem.Spec PyProof.Rows L2
/-! ## the head -/
def dfn (i : Nat) (x : Str) : He.DefD := ⟨(x, none), x, x, defArgs (top i), defBody (top i), defScope (top i), [], []⟩
def fn : List He.DefD := [dfn 5 "is_name", dfn 6 "tupled", dfn 8 "masks_table", dfn 10 "may_table", dfn 12 "tasks_of", dfn 13 "check_task", dfn 14 "seat_more", dfn 15 "seat_all", dfn 16 "ideal", dfn 18 "seats_of", dfn 19 "does_wait", dfn 20 "reach", dfn 21 "is_end", dfn 22 "is_row_of", dfn 23 "is_shift", dfn 24 "ways_on", dfn 25 "shortest", dfn 26 "ends_of", dfn 27 "right_ends_of", dfn 28 "best_way", dfn 29 "a_right_shift", dfn 30 "shifted", dfn 31 "next_shift", dfn 32 "is_settled", dfn 33 "settling", dfn 34 "is_settling", dfn 36 "_law_box", dfn 37 "_law_take", dfn 38 "_law_cells", dfn 39 "_law_of", dfn 40 "_law_pick", dfn 41 "_law_same", dfn 42 "_law_lists", dfn 43 "_law_half", dfn 44 "_law_web", dfn 45 "_law_row", dfn 46 "_law_may", dfn 47 "_law_seats", dfn 48 "_law_shifts", dfn 49 "_law_kit", dfn 50 "_law_is", dfn 51 "_law_moved", dfn 52 "_law_shows", dfn 53 "_law_by_hand_right", dfn 54 "_law_drawn", dfn 55 "_law_right", dfn 56 "law"]
def fa : List He.Fa := [.glo "is_name", .glo "tupled", .glo "masks_table", .glo "may_table", .glo "tasks_of", .glo "check_task", .glo "seat_more", .glo "seat_all", .glo "ideal", .glo "seats_of", .glo "does_wait", .glo "reach", .glo "is_end", .glo "is_row_of", .glo "is_shift", .glo "ways_on", .glo "shortest", .glo "ends_of", .glo "right_ends_of", .glo "best_way", .glo "a_right_shift", .glo "shifted", .glo "next_shift", .glo "is_settled", .glo "settling", .glo "is_settling", .glo "_law_box", .glo "_law_take", .glo "_law_cells", .glo "_law_of", .glo "_law_pick", .glo "_law_same", .glo "_law_lists", .glo "_law_half", .glo "_law_web", .glo "_law_row", .glo "_law_may", .glo "_law_seats", .glo "_law_shifts", .glo "_law_kit", .glo "_law_is", .glo "_law_moved", .glo "_law_shows", .glo "_law_by_hand_right", .glo "_law_drawn", .glo "_law_right", .glo "law", .free "LookupError", .free "abs", .free "all", .free "bool", .free "dict", .free "enumerate", .free "int", .free "isinstance", .free "len", .free "list", .free "max", .free "min", .free "range", .free "set", .free "sorted", .free "str", .free "super", .free "tuple", .free "zip", .int "LONGEST" 8, .str "LETTERS" "abcdefghijklmnopqrstuvwxyz", .glo "NoTask"]
abbrev R : PySem.W.OpenRow := PySem.W.OpenLaw.row PySem.Challenge.rw_masksmoved_k29_whole_shifts_until_settle
abbrev pg : Program := PySem.Challenge.pw_masksmoved_k29_whole_shifts_until_settle
def tf : List He.Defn := [("right_ends_of", none)]
def loose : List PySem.Str := (["NoTask", "LETTERS", "LONGEST", "is_name", "tupled", "masks_table", "may_table", "tasks_of", "check_task", "seat_more", "seat_all", "ideal", "seats_of", "does_wait", "reach", "is_end"] : List PySem.Str) ++ (["is_row_of", "is_shift", "ways_on", "shortest", "ends_of", "right_ends_of", "best_way", "a_right_shift", "shifted", "next_shift", "is_settled", "settling", "is_settling", "_law_box", "_law_take", "_law_cells"] : List PySem.Str) ++ (["_law_of", "_law_pick", "_law_same", "_law_lists", "_law_half", "_law_web", "_law_row", "_law_may", "_law_seats", "_law_shifts", "_law_kit", "_law_is", "_law_moved", "_law_shows", "_law_by_hand_right", "_law_drawn"] : List PySem.Str) ++ (["_law_right"] : List PySem.Str)
/-! NoTask's facts, as Bools -/
def aNT (K : PySem.W.Frag) : Addr := He.ga K "NoTask"
def fNT (K : PySem.W.Frag) : Addr := He.fAd K ("NoTask", some "__init__")
def clB (K : PySem.W.Frag) : List (Str × Addr) → Bool
  | [(n, cc)] => decide (n = "__class__") && (match K.lookup cc with
    | some ⟨_, _, .cell (some v), _⟩ => decide (v = .ref (aNT K))
    | _ => false)
  | _ => false
def cdB (K : PySem.W.Frag) : Value → Bool
  | .ref cda => (match K.lookup cda with
    | some ⟨_, _, .fields vs, _⟩ => (match (vs[2]? : Option Value) with
      | some (Value.str file _) => (pg.main.file : Str) == file
      | _ => false)
    | _ => false)
  | _ => false
def fnB (K : PySem.W.Frag) : Bool := match K.lookup (fNT K) with
  | some ⟨_, _, .func fd, _⟩ => (decide (fd.name = "__init__") && (decide (fd.qualname = "NoTask.__init__") && (decide (fd.globals = mainGlobals) && (decide (fd.builtins = builtinsNs) && (decide (fd.defaults = .none) && decide (fd.kwdefaults = .none)))))) && (PySem.W.codeIn K fd.code "NoTask.__init__" && (clB K fd.closure && cdB K fd.code))
  | _ => false
def ntB (K : PySem.W.Frag) : Bool := (PySem.W.excInitIn K (aNT K) ntTail "LookupError.__new__" && (PySem.W.excOver K (aNT K) ntTail && (PySem.W.hasDictIn K (aNT K) && (He.eqO (PySem.W.findIn K (.ref (aNT K)) "__setattr__") (some (some (.builtin "object.__setattr__"))) && (He.eqO (PySem.W.takerIn K (aNT K) "name") (some none) &&
    (PySem.W.keepIn K (.ref (aNT K)) && (He.eqO (PySem.W.nsIn K cStatics "thirdparty.any") (some none) && (He.eqO (PySem.W.ks_superIn K (aNT K) (aNT K) "__init__") (some (some (.builtin "LookupError.__init__"))) && (decide (PySem.W.subIn K (.ref (aNT K)) (.type "LookupError") = some true) && decide (PySem.W.mroIn K (aNT K) (.ref (aNT K)) = some true)))))))))) &&
    (He.eqO (PySem.W.findIn K (.ref (aNT K)) "__init__") (some (some (.ref (fNT K)))) && (PySem.W.isFn K (.ref (fNT K)) && fnB K))
def oqB (K : PySem.W.Frag) : Bool := (PySem.W.clsIn K (aNT K)).isSome && (He.eqO (PySem.W.findIn K (.ref (aNT K)) "__getattribute__") (some (some (.builtin "BaseException.__getattribute__"))) && (He.eqO (PySem.W.findIn K (.ref (aNT K)) "__getattr__") (some none) && (decide (PySem.W.subIn K (.ref (aNT K)) (.type "BaseException") = some true) &&
    (He.eqO (PySem.W.findIn K (.ref (aNT K)) "__class__") (some (some (.builtin "object.__class__"))) && (He.eqO (PySem.W.specialIn K (.builtin "object.__class__") "__get__") (some (some (.builtin "getset_descriptor.__get__"))) && (decide (PySem.W.takesIn K (.builtin "object.__class__") = some true) &&
    (decide (PySem.W.mroIn K (aNT K) (.type "object") = some true) && decide (PySem.W.kitOne K (.ref (aNT K)) (.type "tuple") = some false))))))))
def exB (K : PySem.W.Frag) : Bool := ntB K && oqB K
abbrev FnC : Type := Option (Arguments × FuncBody × Scope)
def fnC (K : PySem.W.Frag) : FnC := match K.lookup (fNT K) with
  | some ⟨_, _, .func fd, _⟩ => some (fd.params, fd.body, fd.scope)
  | _ => none
def vlC : FnC := some (defArgs ntSt, .stmts (defBody ntSt), defScope ntSt)
/-! the hook -/
def asN (g : Addr → Option Obj) : List Addr := cStatics :: He.asD g 4
abbrev kN (g : Addr → Option Obj) : PySem.W.Frag := He.frT g (asN g)
abbrev AlN : Type := He.AlT × Bool × FnC
def obN (g : Addr → Option Obj) : AlN := (He.obsT fa fn [] (kN g), exB (kN g) && He.tabsB g tf (kN g), fnC (kN g))
def vlN (w : World) : AlN := (He.valT fn [] w, true, vlC)
structure SaysN (w : World) (h : Heap) (K : PySem.W.Frag) : Prop where
  x : He.SaysX fa fn [] tf exB w h K
  c : fnC K = vlC
theorem says_of {w : World} {h : Heap} (e : obN h.get? = vlN w) : SaysN w h (kN h.get?) := by
  have e1 : He.obsT fa fn [] (kN h.get?) = He.valT fn [] w := congrArg (fun z : AlN => z.1) e
  have e2 : (exB (kN h.get?) && He.tabsB h.get? tf (kN h.get?)) = true := congrArg (fun z : AlN => z.2.1) e
  have e3 : fnC (kN h.get?) = vlC := congrArg (fun z : AlN => z.2.2) e
  obtain ⟨h1, h2⟩ := He.ba e2
  have key : ∀ p ∈ tf, PySem.W.codeHdIn (kN h.get?) (He.cT (kN h.get?) p).1 (He.cT (kN h.get?) p).2 = true ∧ ∃ o, h.get? (He.cT (kN h.get?) p).2 = some o ∧ He.emptyTab o = true := fun p hp => by
    obtain ⟨a, b⟩ := He.ba (List.all_eq_true.mp h2 p hp)
    refine ⟨a, ?_⟩
    cases q : h.get? (He.cT (kN h.get?) p).2 with
    | none => rw [q] at b; cases b
    | some o => rw [q] at b; exact ⟨o, rfl, b⟩
  exact ⟨⟨e1, h1, fun p hp => (key p hp).1, fun p hp => (key p hp).2.elim fun o z => He.frT_none z.1 z.2, fun p hp => (key p hp).2.elim fun o z => by rw [z.1, He.emptyTab_eq z.2]⟩, e3⟩
def hk : PySem.W.Hook where
  α := AlN
  obs := fun s => obN s.heap.get?
  val := fun w => vlN w
  says := fun w h => ∃ K : PySem.W.Frag, K.In h ∧ SaysN w h K
  of := fun _ _ e => ⟨_, He.frT_in, says_of e⟩
  keeps := fun _ _ _ ⟨K, hK, c⟩ k => ⟨K, PySem.W.Frag.In.keeps hK k, ⟨c.x.t, c.x.more, c.x.hd, c.x.out, fun p hp => k _ _ (c.x.empty p hp)⟩, c.c⟩
def ob (s : PySem.W.SharedT) : AlN := obN (HandSHeadRun.getT s)
theorem ob_eq (s : PySem.W.SharedT) : ob s = hk.obs s.abs := by
  have e : HandSHeadRun.getT s = s.abs.heap.get? := funext (HandSHeadRun.getT_eq s)
  unfold ob
  rw [e] <;> rfl
theorem run (w : World) : HandSHeadRun.RunEq R (PySem.W.view R.prog [56]) hk ob 4000 loose w := by
  intro os
  kernel_rfl
end MM
end
/-! Q1 -/
/-! Seatings, paths, tight sets: plain. -/
namespace MM
namespace Q
variable {α : Type} [DecidableEq α]
theorem pigeon {f : α → Option α} : ∀ (R L : List α), L.Nodup → (∀ x ∈ L, ∃ c ∈ R, f c = some x) → L.length ≤ R.length
  | [], L, _, h => by
    cases L with
    | nil => exact Nat.le_refl _
    | cons x L => obtain ⟨c, hc, _⟩ := h x List.mem_cons_self; cases hc
  | y :: R, L, nd, h => by
    cases e : f y with
    | none =>
      have := pigeon R L nd fun x hx => by
        obtain ⟨c, hc, e2⟩ := h x hx
        rcases List.mem_cons.mp hc with rfl | hc
        · rw [e] at e2; cases e2
        · exact ⟨c, hc, e2⟩
      simp only [List.length_cons]; omega
    | some z =>
      have h2 := pigeon R (L.erase z) (nd.erase z) fun x hx => by
        have hx' := List.mem_of_mem_erase hx
        have ne : x ≠ z := fun q => by rw [q] at hx; exact (List.Nodup.not_mem_erase nd) hx
        obtain ⟨c, hc, e2⟩ := h x hx'
        rcases List.mem_cons.mp hc with rfl | hc
        · rw [e] at e2; exact absurd (Option.some.inj e2).symm ne
        · exact ⟨c, hc, e2⟩
      have h3 : L.length ≤ (L.erase z).length + 1 := by
        rw [List.length_erase]
        split <;> omega
      simp only [List.length_cons]; omega
def Run (f : α → Option α) (t : α) : Prop := ∃ c, f c = some t
structure Va (ns : List α) (mf : α → List α) (f : α → Option α) : Prop where
  mem : ∀ c m, f c = some m → m ∈ ns
  ok : ∀ c m, f c = some m → c ∈ mf m
  inj : ∀ c d m, f c = some m → f d = some m → c = d
/-- t cannot be seated beside tasks of S that come before it -/
def Blk (mf : α → List α) (ix : α → Nat) (S : α → Prop) (t : α) : Prop := ∃ R T : List α, T.Nodup ∧ R.length ≤ T.length ∧ (∀ x ∈ T, S x ∧ ix x < ix t) ∧ ∀ x, x = t ∨ x ∈ T → ∀ c ∈ mf x, c ∈ R
section
variable {ns : List α} {mf : α → List α} {ix : α → Nat} {f g : α → Option α} {t : α}
theorem Blk.imp {S S' : α → Prop} (h : ∀ x, S x → S' x) (b : Blk mf ix S t) : Blk mf ix S' t := by
  obtain ⟨R, T, a, b, c, d⟩ := b
  exact ⟨R, T, a, b, fun x hx => ⟨h x (c x hx).1, (c x hx).2⟩, d⟩
theorem not_blk (vf : Va ns mf f) {S : α → Prop} (h : ∀ s, ix s < ix t → S s → Run f s) (r : Run f t) : ¬ Blk mf ix S t := fun ⟨R, T, nd, le, hT, cl⟩ => by
  have nt : t ∉ T := fun z => Nat.lt_irrefl _ (hT t z).2
  have := pigeon (f := f) R (t :: T) (List.nodup_cons.mpr ⟨nt, nd⟩) fun x hx => by
    have hx : x = t ∨ x ∈ T := List.mem_cons.mp hx
    have rx : Run f x := by
      rcases hx with rfl | hx
      · exact r
      · exact h x (hT x hx).2 (hT x hx).1
    obtain ⟨c, hc⟩ := rx
    exact ⟨c, cl x hx c (vf.ok c x hc), hc⟩
  simp only [List.length_cons] at this
  omega
theorem tight_eq (vf : Va ns mf f) (vg : Va ns mf g) (hf : ∀ t ∈ ns, Run f t ∨ Blk mf ix (Run f) t) (hg : ∀ t ∈ ns, Run g t ∨ Blk mf ix (Run g) t) : ∀ n t, ix t = n → (Run f t ↔ Run g t) := by
  intro n
  induction n using Nat.strongRecOn with
  | _ n ih =>
    intro t e
    constructor
    · intro r
      obtain ⟨c, hc⟩ := id r
      exact (hg t (vf.mem c t hc)).resolve_right (not_blk vf (fun s hs => (ih (ix s) (by omega) s rfl).mpr) r)
    · intro r
      obtain ⟨c, hc⟩ := id r
      exact (hf t (vg.mem c t hc)).resolve_right (not_blk vg (fun s hs => (ih (ix s) (by omega) s rfl).mp) r)
/-- a closed set of taken places -/
theorem blk_of {R : List α} (nd : R.Nodup) (vf : ∀ c d m, f c = some m → f d = some m → c = d) (hR : ∀ c ∈ R, ∃ m, f c = some m ∧ ix m < ix t) (h0 : ∀ c ∈ mf t, c ∈ R) (h1 : ∀ c ∈ R, ∀ m, f c = some m → ∀ d ∈ mf m, d ∈ R) : Blk mf ix (Run f) t := by
  refine ⟨R, R.filterMap f, ?_, ?_, fun x hx => ?_, fun x hx c hc => ?_⟩
  · clear h0 h1
    induction R with
    | nil => exact List.nodup_nil
    | cons c R ih =>
      obtain ⟨m, e, _⟩ := hR c List.mem_cons_self
      rw [List.filterMap_cons, e]
      refine List.nodup_cons.mpr ⟨fun z => ?_, ih (List.nodup_cons.mp nd).2 fun d hd => hR d (List.mem_cons_of_mem _ hd)⟩
      obtain ⟨d, hd, e2⟩ := List.mem_filterMap.mp z
      rw [vf c d m e e2] at nd
      exact (List.nodup_cons.mp nd).1 hd
  · clear h0 h1
    induction R with
    | nil => exact Nat.le_refl _
    | cons c R ih =>
      obtain ⟨m, e, _⟩ := hR c List.mem_cons_self
      rw [List.filterMap_cons, e]
      exact Nat.succ_le_succ (ih (List.nodup_cons.mp nd).2 fun d hd => hR d (List.mem_cons_of_mem _ hd))
  · obtain ⟨c, hc, e⟩ := List.mem_filterMap.mp hx
    obtain ⟨m, e2, lt⟩ := hR c hc
    rw [e] at e2
    cases e2
    exact ⟨⟨c, e⟩, lt⟩
  · rcases hx with rfl | hx
    · exact h0 c hc
    · obtain ⟨d, hd, e⟩ := List.mem_filterMap.mp hx
      exact h1 d hd x e c hc
/-! ### paths -/
inductive Rch (mf : α → List α) (f : α → Option α) (t : α) : α → Prop
  | one {c : α} : c ∈ mf t → Rch mf f t c
  | ext {c m d : α} : Rch mf f t c → f c = some m → d ∈ mf m → Rch mf f t d
inductive Pth (mf : α → List α) (f : α → Option α) (t : α) : List (α × α) → α → Prop
  | one {c : α} : c ∈ mf t → Pth mf f t [(t, c)] c
  | ext {ps : List (α × α)} {c m d : α} : Pth mf f t ps c → f c = some m → d ∈ mf m → d ∉ ps.map (·.2) → Pth mf f t (ps ++ [(m, d)]) d
theorem Pth.last {ps : List (α × α)} {c : α} (h : Pth mf f t ps c) : c ∈ ps.map (·.2) := by cases h <;> simp
theorem Pth.rch {ps : List (α × α)} {c : α} (h : Pth mf f t ps c) : Rch mf f t c := by
  induction h with
  | one h => exact .one h
  | ext _ e h _ ih => exact .ext ih e h
theorem Pth.upto {ps : List (α × α)} {c : α} (h : Pth mf f t ps c) : ∀ d ∈ ps.map (·.2), ∃ qs, Pth mf f t qs d := by
  induction h with
  | one h =>
    intro d hd
    simp at hd
    subst hd
    exact ⟨_, .one h⟩
  | ext h0 e h n ih =>
    intro d hd
    rw [List.map_append, List.mem_append] at hd
    rcases hd with hd | hd
    · exact ih d hd
    · simp at hd
      subst hd
      exact ⟨_, .ext h0 e h n⟩
theorem Rch.pth {c : α} (h : Rch mf f t c) : ∃ ps, Pth mf f t ps c := by
  induction h with
  | one h => exact ⟨_, .one h⟩
  | @ext c m d _ e h ih =>
    obtain ⟨ps, hp⟩ := ih
    by_cases hd : d ∈ ps.map (·.2)
    · exact hp.upto d hd
    · exact ⟨_, .ext hp e h hd⟩
theorem Pth.nodup {ps : List (α × α)} {c : α} (h : Pth mf f t ps c) : (ps.map (·.2)).Nodup := by
  induction h with
  | one h => simp
  | ext h0 e h n ih =>
    rw [List.map_append, List.nodup_append]
    refine ⟨ih, by simp, fun a ha b hb => ?_⟩
    simp at hb
    subst hb
    exact fun z => n (by rw [← z]; exact ha)
/-- the movers: t, then who sits on an earlier place of the path -/
theorem Pth.mover {ps : List (α × α)} {c : α} (h : Pth mf f t ps c) : ∀ m ∈ ps.map (·.1), m = t ∨ ∃ d ∈ ps.map (·.2), d ≠ c ∧ f d = some m := by
  induction h with
  | one h => intro m hm; simp at hm; exact .inl hm
  | @ext ps c m0 d h0 e h n ih =>
    intro m hm
    rw [List.map_append, List.mem_append] at hm
    rcases hm with hm | hm
    · rcases ih m hm with z | ⟨x, hx, nx, ex⟩
      · exact .inl z
      · exact .inr ⟨x, by rw [List.map_append]; exact List.mem_append_left _ hx, fun q => n (by rw [← q]; exact hx), ex⟩
    · simp at hm
      subst hm
      exact .inr ⟨c, by rw [List.map_append]; exact List.mem_append_left _ h0.last, fun q => n (by rw [← q]; exact h0.last), e⟩
theorem Pth.movers {ps : List (α × α)} {c : α} (h : Pth mf f t ps c) (inj : ∀ c d m, f c = some m → f d = some m → c = d) (w : ¬ Run f t) : (ps.map (·.1)).Nodup := by
  induction h with
  | one h => simp
  | @ext ps c m d h0 e h n ih =>
    rw [List.map_append, List.nodup_append]
    refine ⟨ih, by simp, fun a ha b hb => ?_⟩
    simp at hb
    subst hb
    rintro rfl
    rcases h0.mover a ha with z | ⟨x, hx, nx, ex⟩
    · exact w ⟨c, by rw [e, z]⟩
    · exact nx (inj x c a ex e)
/-- what a path does -/
def mv (f : α → Option α) (ps : List (α × α)) : α → Option α := ps.foldl (fun g p => fun x => if p.2 = x then some p.1 else g x) f
theorem mv_snoc (f : α → Option α) (ps : List (α × α)) (p : α × α) : mv f (ps ++ [p]) = fun x => if p.2 = x then some p.1 else mv f ps x := by
  unfold mv; rw [List.foldl_append]; rfl
theorem mv_out {x : α} : ∀ {ps : List (α × α)} {f : α → Option α}, x ∉ ps.map (·.2) → mv f ps x = f x
  | [], _, _ => rfl
  | p :: ps, f, h => by
    have h1 : mv (fun y => if p.2 = y then some p.1 else f y) ps x = (fun y => if p.2 = y then some p.1 else f y) x := mv_out fun z => h (by rw [List.map_cons]; exact List.mem_cons_of_mem _ z)
    show mv (fun y => if p.2 = y then some p.1 else f y) ps x = f x
    rw [h1]
    exact if_neg fun z => h (by rw [List.map_cons, z]; exact List.mem_cons_self)
theorem Pth.moved {ps : List (α × α)} {c : α} (h : Pth mf f t ps c) (ok : ∀ c m, f c = some m → c ∈ mf m) (inj : ∀ c d m, f c = some m → f d = some m → c = d) (w : ¬ Run f t) :
    (∀ x m, mv f ps x = some m → x ∈ mf m) ∧ (∀ m, Run (mv f ps) m ↔ m = t ∨ (Run f m ∧ f c ≠ some m)) ∧ ∀ x y m, mv f ps x = some m → mv f ps y = some m → x = y := by
  induction h with
  | @one c h =>
    have e : mv f [(t, c)] = fun x => if c = x then some t else f x := rfl
    rw [e]
    refine ⟨fun x m q => ?_, fun m => ⟨fun ⟨x, q⟩ => ?_, fun q => ?_⟩, fun x y m q r => ?_⟩
    · by_cases z : c = x
      · simp only [if_pos z] at q; cases q; rw [← z]; exact h
      · simp only [if_neg z] at q; exact ok x m q
    · by_cases z : c = x
      · simp only [if_pos z] at q; cases q; exact .inl rfl
      · simp only [if_neg z] at q; exact .inr ⟨⟨x, q⟩, fun k => z (inj c x m k q)⟩
    · rcases q with rfl | ⟨⟨x, q⟩, k⟩
      · exact ⟨c, if_pos rfl⟩
      · exact ⟨x, (if_neg (fun z => k (by rw [z]; exact q))).trans q⟩
    · by_cases z : c = x
      · by_cases z2 : c = y
        · rw [← z, ← z2]
        · simp only [if_pos z] at q; simp only [if_neg z2] at r; cases q; exact absurd ⟨y, r⟩ w
      · by_cases z2 : c = y
        · simp only [if_neg z] at q; simp only [if_pos z2] at r; cases r; exact absurd ⟨x, q⟩ w
        · simp only [if_neg z] at q; simp only [if_neg z2] at r; exact inj x y m q r
  | @ext ps c m0 d h0 e h n ih =>
    obtain ⟨i1, i2, i3⟩ := ih
    have gd : mv f ps d = f d := mv_out n
    have ncd : c ≠ d := fun z => n (by rw [← z]; exact h0.last)
    have nt : m0 ≠ t := fun z => w ⟨c, by rw [e, z]⟩
    have nr : ∀ x, mv f ps x ≠ some m0 := fun x q => by
      rcases (i2 m0).mp ⟨x, q⟩ with z | ⟨_, z⟩
      · exact nt z
      · exact z e
    rw [mv_snoc]
    refine ⟨fun x m q => ?_, fun m => ⟨fun ⟨x, q⟩ => ?_, fun q => ?_⟩, fun x y m q r => ?_⟩
    · by_cases z : d = x
      · simp only [if_pos z] at q; cases q; rw [← z]; exact h
      · simp only [if_neg z] at q; exact i1 x m q
    · by_cases z : d = x
      · simp only [if_pos z] at q; cases q; exact .inr ⟨⟨c, e⟩, fun k => ncd (inj c d m0 e k)⟩
      · simp only [if_neg z] at q
        rcases (i2 m).mp ⟨x, q⟩ with k | ⟨k1, k2⟩
        · exact .inl k
        · exact .inr ⟨k1, fun k => z (i3 d x m (by rw [gd]; exact k) q)⟩
    · by_cases k : m = m0
      · subst k; exact ⟨d, if_pos rfl⟩
      · have : Run (mv f ps) m := (i2 m).mpr (by
          rcases q with q | ⟨q1, q2⟩
          · exact .inl q
          · exact .inr ⟨q1, fun z => k (by rw [e] at z; exact (Option.some.inj z).symm)⟩)
        obtain ⟨x, hx⟩ := this
        refine ⟨x, ?_⟩
        have nx : ¬ d = x := fun z => by
          rw [← z, gd] at hx
          rcases q with q | ⟨q1, q2⟩
          · exact w ⟨d, by rw [hx, q]⟩
          · exact q2 hx
        simp only [if_neg nx]; exact hx
    · by_cases z : d = x
      · by_cases z2 : d = y
        · rw [← z, ← z2]
        · simp only [if_pos z] at q; simp only [if_neg z2] at r; cases q; exact absurd r (nr y)
      · by_cases z2 : d = y
        · simp only [if_neg z] at q; simp only [if_pos z2] at r; cases r; exact absurd q (nr x)
        · simp only [if_neg z] at q; simp only [if_neg z2] at r; exact i3 x y m q r
theorem Pth.va {ps : List (α × α)} {c : α} (h : Pth mf f t ps c) (v : Va ns mf f) (w : ¬ Run f t) (ht : t ∈ ns) : Va ns mf (mv f ps) := by
  obtain ⟨a, b, d⟩ := h.moved v.ok v.inj w
  refine ⟨fun x m q => ?_, a, d⟩
  rcases (b m).mp ⟨x, q⟩ with z | ⟨⟨y, z⟩, _⟩
  · rw [z]; exact ht
  · exact v.mem y m z
end
/-! ### the measure -/
def valB (r : α → Bool) : List α → Nat
  | [] => 0
  | n :: ns => (if r n then 2 ^ ns.length else 0) + valB r ns
theorem valB_lt (r : α → Bool) : ∀ ns, valB r ns < 2 ^ ns.length
  | [] => by simp [valB]
  | n :: ns => by
    have := valB_lt r ns
    unfold valB
    rw [List.length_cons, Nat.pow_succ]
    split <;> omega
theorem valB_up {r r' : α → Bool} {t : α} {b : List α} (h0 : r t = false) (h1 : r' t = true) : ∀ a : List α, (∀ n ∈ a, r n = r' n) → valB r (a ++ t :: b) < valB r' (a ++ t :: b)
  | [], _ => by
    have := valB_lt r b
    show (if r t then _ else _) + valB r b < (if r' t then _ else _) + valB r' b
    rw [h0, h1]
    simp
    omega
  | n :: a, h => by
    have := valB_up (b := b) h0 h1 a fun m hm => h m (List.mem_cons_of_mem _ hm)
    have e := h n List.mem_cons_self
    show (if r n then _ else _) + valB r (a ++ t :: b) < (if r' n then _ else _) + valB r' (a ++ t :: b)
    rw [e]
    exact Nat.add_lt_add_left this _
end Q
end MM
/-! Q2 -/
/-! Runs of the readings. -/
namespace MM
open PySem
/-! ### a run and what it gives -/
def W {T α : Type} (m : M T α) (t : T) (Q : α → T → Prop) : Prop := ∃ a t', m t = some (a, t') ∧ Q a t'
section
variable {T α β : Type} {t : T} {Q : α → T → Prop}
@[simp] theorem W_ret {a : α} : W (ret a) t Q ↔ Q a t := ⟨fun ⟨_, _, e, q⟩ => by cases e; exact q, fun q => ⟨_, _, rfl, q⟩⟩
@[simp] theorem W_lft {a : α} : W (lft (some a)) t Q ↔ Q a t := ⟨fun ⟨_, _, e, q⟩ => by cases e; exact q, fun q => ⟨_, _, rfl, q⟩⟩
@[simp] theorem W_lftn : W (lft (none : Option α)) t Q ↔ False := ⟨fun ⟨_, _, e, q⟩ => (by cases e), fun q => q.elim⟩
@[simp] theorem W_bnd {m : M T β} {f : β → M T α} : W (bnd m f) t Q ↔ W m t fun b t' => W (f b) t' Q := by
  constructor
  · rintro ⟨a, t', e, q⟩
    obtain ⟨b, t1, e1, e2⟩ := bnd_some e
    exact ⟨b, t1, e1, a, t', e2, q⟩
  · rintro ⟨b, t1, e1, a, t', e2, q⟩
    refine ⟨a, t', ?_, q⟩
    unfold bnd
    rw [e1]
    exact e2
theorem W.mono {m : M T α} {Q' : α → T → Prop} (h : W m t Q) (k : ∀ a t, Q a t → Q' a t) : W m t Q' := by
  obtain ⟨a, t', e, q⟩ := h
  exact ⟨a, t', e, k _ _ q⟩
theorem W_at {m : M T α} {v : α} {t1 : T} (h : W m t fun a t' => a = v ∧ t' = t1) (q : Q v t1) : W m t Q := h.mono fun a t' ⟨e1, e2⟩ => by rw [e1, e2]; exact q
theorem W_lft' {o : Option α} {a : α} (e : o = some a) (q : Q a t) : W (lft o) t Q := by rw [e]; exact W_lft.mpr q
end
section
variable {T : Type} {t : T} {ρ : Env}
@[simp] theorem W_seqS {f g : FS T} {Q : Out → T → Prop} : W (seqS f g ρ) t Q ↔ W (f ρ) t fun o t' => match o with
    | .nx ρ' => W (g ρ') t' Q
    | o => Q o t' := by
  unfold seqS
  rw [W_bnd]
  constructor <;> exact fun h => h.mono fun o t q => by cases o <;> simpa using q
@[simp] theorem W_sIf {c : FB T} {f g : FS T} {Q : Out → T → Prop} : W (sIf c f g ρ) t Q ↔ W (c ρ) t fun b t' => if b = true then W (f ρ) t' Q else W (g ρ) t' Q := by
  unfold sIf
  rw [W_bnd]
  constructor <;> exact fun h => h.mono fun o t q => by cases o <;> simpa using q
@[simp] theorem W_tOr {f g : FB T} {Q : Bool → T → Prop} : W (tOr f g ρ) t Q ↔ W (f ρ) t fun b t' => if b = true then Q true t' else W (g ρ) t' Q := by
  unfold tOr
  rw [W_bnd]
  constructor <;> exact fun h => h.mono fun o t q => by cases o <;> simpa using q
@[simp] theorem W_tAnd {f g : FB T} {Q : Bool → T → Prop} : W (tAnd f g ρ) t Q ↔ W (f ρ) t fun b t' => if b = true then W (g ρ) t' Q else Q false t' := by
  unfold tAnd
  rw [W_bnd]
  constructor <;> exact fun h => h.mono fun o t q => by cases o <;> simpa using q
@[simp] theorem W_eOr {f g : FD T} {Q : D → T → Prop} : W (eOr f g ρ) t Q ↔ W (f ρ) t fun x t' => W (lft (asB x)) t' fun b t' => if b = true then Q (.bl true) t' else W (g ρ) t' Q := by
  unfold eOr
  rw [W_bnd]
  constructor <;> exact fun h => h.mono fun o t q => by
    rw [W_bnd] at *
    exact W.mono (by assumption) fun b t q => by cases b <;> simpa using q
@[simp] theorem W_eAnd {f g : FD T} {Q : D → T → Prop} : W (eAnd f g ρ) t Q ↔ W (f ρ) t fun x t' => W (lft (asB x)) t' fun b t' => if b = true then W (g ρ) t' Q else Q (.bl false) t' := by
  unfold eAnd
  rw [W_bnd]
  constructor <;> exact fun h => h.mono fun o t q => by
    rw [W_bnd] at *
    exact W.mono (by assumption) fun b t q => by cases b <;> simpa using q
@[simp] theorem W_eIf {c : FB T} {f g : FD T} {Q : D → T → Prop} : W (eIf c f g ρ) t Q ↔ W (c ρ) t fun b t' => if b = true then W (f ρ) t' Q else W (g ρ) t' Q := by
  unfold eIf
  rw [W_bnd]
  constructor <;> exact fun h => h.mono fun o t q => by cases o <;> simpa using q
theorem W_for {bd : D → Env → Option Env} {f : FS T} (P : List D → Env → T → Prop) {R : D → T → Prop} (h : ∀ x xs ρ t, P (x :: xs) ρ t → ∃ ρ1, bd x ρ = some ρ1 ∧ W (f ρ1) t fun o t' => match o with
      | .nx ρ' => P xs ρ' t'
      | .rt d => R d t'
      | _ => False) : ∀ {xs : List D} {ρ : Env} {t : T} {Q : Out → T → Prop}, P xs ρ t → (∀ ρ' t', P [] ρ' t' → Q (.nx ρ') t') → (∀ d t', R d t' → Q (.rt d) t') → W (forF bd f xs ρ) t Q
  | [], ρ, t, Q, p, q, _ => W_ret.mpr (q _ _ p)
  | x :: xs, ρ, t, Q, p, q, r => by
    obtain ⟨ρ1, e, w⟩ := h x xs ρ t p
    unfold forF
    rw [W_bnd]
    refine W_lft' e ?_
    rw [W_bnd]
    refine w.mono fun o t' k => ?_
    cases o with
    | nx ρ' => exact W_for P h k q r
    | rt d => exact W_ret.mpr (r _ _ k)
    | bk _ => exact False.elim k
    | ct _ => exact False.elim k
theorem W_while {c : FB T} {f : FS T} (P : Nat → Env → T → Prop) {Qn : Env → T → Prop} {R : D → T → Prop} (h : ∀ m ρ t, P m ρ t → W (c ρ) t fun b t1 => if b = true then W (f ρ) t1 (fun o t' => match o with
      | .nx ρ' => ∃ m', m' < m ∧ P m' ρ' t'
      | .rt d => R d t'
      | _ => False) else Qn ρ t1) : ∀ {n m : Nat} {ρ : Env} {t : T} {Q : Out → T → Prop}, P m ρ t → m < n → (∀ ρ' t', Qn ρ' t' → Q (.nx ρ') t') → (∀ d t', R d t' → Q (.rt d) t') → W (whileF c f n ρ) t Q
  | 0, _, _, _, _, _, lt, _, _ => absurd lt (by omega)
  | n + 1, m, ρ, t, Q, p, lt, q, r => by
    have w := h m ρ t p
    unfold whileF
    rw [W_bnd]
    refine w.mono fun b t1 k => ?_
    cases b with
    | false => exact W_ret.mpr (q _ _ k)
    | true =>
      rw [W_bnd]
      rw [if_pos rfl] at k
      refine k.mono fun o t' k => ?_
      cases o with
      | nx ρ' =>
        obtain ⟨m', lt', p'⟩ := k
        exact W_while P h p' (by omega) q r
      | rt d => exact W_ret.mpr (r _ _ k)
      | bk _ => exact False.elim k
      | ct _ => exact False.elim k
/-- a comprehension whose items are each f of it, kept if g -/
theorem W_comp {bd : D → Env → Option Env} {ft : FB T} {fe : FD T} {β : Type} {t : T} {Q : List D → T → Prop} (em : β → D) (g : β → Bool) (f : β → D) (ys : List β) (h : ∀ y ∈ ys, ∃ ρ1, bd (em y) ρ = some ρ1 ∧ W (ft ρ1) t (fun b t' => b = g y ∧ t' = t) ∧ (g y = true → W (fe ρ1) t fun d t' => d = f y ∧ t' = t))
    (q : Q ((ys.filter g).map f) t) : W (compF bd ft fe (ys.map em) ρ) t Q := by
  have key : compF bd ft fe (ys.map em) ρ t = some ((ys.filter g).map f, t) := by
    clear q
    induction ys with
    | nil => rfl
    | cons y ys ih =>
      obtain ⟨ρ1, e, ⟨b, t1, e1, rfl, rfl⟩, w2⟩ := h y List.mem_cons_self
      have ih := ih fun z hz => h z (List.mem_cons_of_mem _ hz)
      rw [List.map_cons]
      unfold compF bnd lft
      simp only [e, e1]
      cases gy : g y with
      | false => simp only [List.filter_cons, gy]; exact ih
      | true =>
        obtain ⟨d, t2, e2, rfl, rfl⟩ := w2 gy
        simp only [List.filter_cons, gy, e2, if_true, List.map_cons, ih]
        rfl
  exact ⟨_, _, key, q⟩
theorem runD_W {n m : Nat} {F : FS T} {ds : List D} {t : T} {Q : D → T → Prop} (hn : ds.length = n) (h : W (F (ds.map (fun d => some (.val d)) ++ List.replicate m none)) t fun o t' => match o with
    | .rt d => Q d t'
    | .nx _ => Q .non t'
    | _ => False) : W (runD n m F ds) t Q := by
  unfold runD
  rw [if_pos hn, W_bnd]
  refine h.mono fun o t' k => ?_
  cases o with
  | rt d => exact W_ret.mpr k
  | nx ρ => exact W_ret.mpr k
  | bk _ => exact False.elim k
  | ct _ => exact False.elim k
theorem G_of {n m : Nat} {F : FS Unit} {ds : List D} {Q : D → Prop} (hn : ds.length = n) (h : W (F (ds.map (fun d => some (.val d)) ++ List.replicate m none)) () fun o _ => match o with
    | .rt d => Q d
    | .nx _ => Q .non
    | _ => False) : ∃ d, (runD n m F ds ()).map (·.1) = some d ∧ Q d := by
  obtain ⟨d, t, e, q⟩ := runD_W (Q := fun d _ => Q d) hn h
  exact ⟨d, by rw [e]; rfl, q⟩
@[simp] theorem W_callP {n : Nat} {G : List D → Option D} {ds : List D} {Q : D → T → Prop} : W (callP n G ds) t Q ↔ ds.length = n ∧ ∃ d, G ds = some d ∧ Q d t := by
  unfold callP
  constructor
  · rintro ⟨d, t', e, q⟩
    obtain ⟨e2, rfl⟩ := lft_some e
    split at e2
    · next h => exact ⟨h, d, e2, q⟩
    · cases e2
  · rintro ⟨h, d, e, q⟩
    exact ⟨d, t, by rw [if_pos h, e]; rfl, q⟩
@[simp] theorem W_callS {n : Nat} {G : List D → M T D} {ds : List D} {Q : D → T → Prop} : W (callS n G ds) t Q ↔ ds.length = n ∧ W (G ds) t Q := by
  unfold callS
  constructor
  · rintro ⟨d, t', e, q⟩
    split at e
    · next h => exact ⟨h, d, t', e, q⟩
    · cases e
  · rintro ⟨h, d, t', e, q⟩
    exact ⟨d, t', by rw [if_pos h]; exact e, q⟩
@[simp] theorem W_kCall {n : Nat} {G : List D → Option (List (Str × D))} {f : FL T} {Q : List (Str × D) → T → Prop} : W (kCall n G f ρ) t Q ↔ W (f ρ) t fun ds t' => ds.length = n ∧ ∃ d, G ds = some d ∧ Q d t' := by
  unfold kCall
  rw [W_bnd]
  constructor
  · refine fun h => h.mono fun ds t' ⟨d, t1, e, q⟩ => ?_
    obtain ⟨e2, rfl⟩ := lft_some e
    split at e2
    · next h => exact ⟨h, d, e2, q⟩
    · cases e2
  · refine fun h => h.mono fun ds t' ⟨h, d, e, q⟩ => ?_
    exact ⟨d, t', by rw [if_pos h, e]; rfl, q⟩
end
/-! ### names and seats as data -/
@[simp] abbrev sT (xs : List Str) : D := .tup (xs.map .str)
@[simp] abbrev sL (xs : List Str) : D := .lst (xs.map .str)
def tbD (ns : List Str) (mf : Str → List Str) : List (Str × D) := ns.map fun n => (n, sT (mf n))
def stD (sd : List (Str × Str)) : List (Str × D) := sd.map fun p => (p.1, D.str p.2)
def lk : List (Str × Str) → Str → Option Str
  | [], _ => none
  | (y, d) :: r, x => if y = x then some d else lk r x
@[simp] theorem dget_st (sd : List (Str × Str)) (x : Str) : dget (stD sd) x = (lk sd x).map D.str := by
  induction sd with
  | nil => rfl
  | cons p sd ih =>
    show (if p.1 = x then some (D.str p.2) else dget (stD sd) x) = (if p.1 = x then some p.2 else lk sd x).map D.str
    split
    · rfl
    · exact ih
theorem dget_tb {ns : List Str} {mf : Str → List Str} {x : Str} (h : x ∈ ns) : dget (tbD ns mf) x = some (sT (mf x)) := by
  induction ns with
  | nil => cases h
  | cons n ns ih =>
    show (if n = x then some (sT (mf n)) else dget (tbD ns mf) x) = _
    split
    · next e => rw [e]
    · next e => exact ih ((List.mem_cons.mp h).resolve_left fun z => e z.symm)
@[simp] theorem txts_map (xs : List Str) : txts (xs.map D.str) = some xs := by
  induction xs with
  | nil => rfl
  | cons x xs ih => rw [List.map_cons]; unfold txts; rw [ih]; rfl
@[simp] theorem txts_comp {β : Type} (f : β → Str) (xs : List β) : txts (xs.map (D.str ∘ f)) = some (xs.map f) := by rw [← List.map_map, txts_map]
@[simp] theorem bools_map (xs : List Bool) : bools (xs.map D.bl) = some xs := by
  induction xs with
  | nil => rfl
  | cons x xs ih => rw [List.map_cons]; unfold bools; rw [ih]; rfl
@[simp] theorem vals_st (sd : List (Str × Str)) : valsD (stD sd) = (sd.map (·.2)).map D.str := by
  unfold valsD stD
  rw [List.map_map, List.map_map]
  rfl
def srt (xs : List Str) : List Str := isort (fun a b => !ltS b a) xs
theorem ins_map {α β : Type} (f : α → β) (le : α → α → Bool) (le' : β → β → Bool) (h : ∀ a b, le' (f a) (f b) = le a b) (x : α) : ∀ l : List α, ins le' (f x) (l.map f) = (ins le x l).map f
  | [] => rfl
  | y :: l => by
    rw [List.map_cons]
    unfold ins
    rw [h]
    split
    · rfl
    · rw [ins_map f le le' h x l]; rfl
theorem isort_map {α β : Type} (f : α → β) (le : α → α → Bool) (le' : β → β → Bool) (h : ∀ a b, le' (f a) (f b) = le a b) : ∀ l : List α, isort le' (l.map f) = (isort le l).map f
  | [] => rfl
  | x :: l => by
    rw [List.map_cons]
    unfold isort
    rw [isort_map f le le' h l, ins_map f le le' h]
theorem sort_strs {xs : List Str} (h : xs.length ≤ 100000) : sortD (xs.map D.str) = some ((srt xs).map D.str) := by
  unfold sortD
  have e : (xs.map D.str).all isS = true := by simp [isS]
  rw [e]
  simp only [Bool.true_or, Bool.true_and, List.length_map, h, decide_true, if_true]
  unfold srt
  rw [isort_map D.str (fun a b => !ltS b a) leD fun a b => ?_]
  show (!ltR [b] [a]) = !ltS b a
  unfold ltR
  split
  · next e => subst e; simp [ltR, ltS]
  · rfl
theorem srt_perm (xs : List Str) : (srt xs).Perm xs := isort_perm _ xs
@[simp] theorem vV_get (i : Nat) (ρ : Env) : vV i ρ = match ρ[i]? with
  | some (some (.val d)) => some d
  | _ => none := rfl
@[simp] theorem vB_get (i : Nat) (ρ : Env) : vB i ρ = match ρ[i]? with
  | some (some (.val d)) => some d
  | some (some (.ol ds)) => some (.lst ds)
  | some (some (.od ks)) => some (.dct ks)
  | _ => none := rfl
@[simp] theorem asB_bl (b : Bool) : asB (.bl b) = some b := rfl
@[simp] theorem asI_int (i : Int) : asI (.int i) = some i := rfl
/-! ### does_wait, tasks_of -/
theorem does_wait_eq (sd : List (Str × Str)) (x : Str) : G_does_wait [.dct (stD sd), .str x] = some (.bl (!(sd.map (·.2)).any (· == x))) := by
  unfold G_does_wait
  obtain ⟨d, e, q⟩ := G_of (n := 2) (m := 0) (F := F_does_wait) (ds := [.dct (stD sd), .str x]) (Q := fun d => d = .bl (!(sd.map (·.2)).any (· == x))) rfl (by
    simp [F_does_wait, vB, dctD, inD, seqOf])
  rw [e, q]
end MM
/-! Q3 -/
namespace MM
open PySem Q
/-! ### small facts -/
@[simp] theorem idxL_lst0 (x : D) (xs : List D) : idxL (.lst (x :: xs)) (.int 0) = some x := L2.atI_nat (j := 0) (xs := x :: xs) rfl
@[simp] theorem idxL_tup0 (x : D) (xs : List D) : idxL (.tup (x :: xs)) (.int 0) = some x := L2.atI_nat (j := 0) (xs := x :: xs) rfl
@[simp] theorem idxK_dct (ks : List (Str × D)) (x : Str) : idxK (.dct ks) (.str x) = dget ks x := rfl
@[simp] theorem inK_dct (b : Bool) (ks : List (Str × D)) (x : Str) : inK b (.str x) (.dct ks) = some (.bl (if b then !(dget ks x).isSome else (dget ks x).isSome)) := rfl
@[simp] theorem cut_tail (x : D) (xs : List D) : cutD (x :: xs) (some 1) none = xs := by
  unfold cutD
  simp [HT.sIx]
@[simp] theorem seqOf_lst (xs : List D) : seqOf (.lst xs) = some xs := rfl
@[simp] theorem seqOf_tup (xs : List D) : seqOf (.tup xs) = some xs := rfl
@[simp] theorem lenD_lst (xs : List D) : lenD (.lst xs) = some (.int xs.length) := rfl
@[simp] theorem lenD_tup (xs : List D) : lenD (.tup xs) = some (.int xs.length) := rfl
@[simp] theorem lstD_lst (xs : List D) : lstD (.lst xs) = some xs := rfl
@[simp] theorem tupD_tup (xs : List D) : tupD (.tup xs) = some xs := rfl
@[simp] theorem dctD_dct (xs : List (Str × D)) : dctD (.dct xs) = some xs := rfl
@[simp] theorem iB_int (g : Int → Int → Bool) (i j : Int) : iB g (.int i) (.int j) = some (.bl (g i j)) := rfl
@[simp] theorem iI_int (g : Int → Int → Option Int) (i j : Int) : iI g (.int i) (.int j) = (g i j).map .int := rfl
@[simp] theorem inD_strs (b : Bool) (x : Str) (ys : List Str) : inD b (.str x) (.lst (ys.map .str)) = some (.bl (if b then !ys.any (· == x) else ys.any (· == x))) := by simp [inD]
@[simp] theorem inD_strsT (b : Bool) (x : Str) (ys : List Str) : inD b (.str x) (.tup (ys.map .str)) = some (.bl (if b then !ys.any (· == x) else ys.any (· == x))) := by simp [inD]
theorem sml_of {xs : List D} (h : xs.length ≤ 100000) : sml xs = some xs := if_pos h
theorem any_mem {x : Str} {ys : List Str} : ys.any (· == x) = decide (x ∈ ys) := by
  induction ys with
  | nil => rfl
  | cons y ys ih =>
    rw [List.any_cons, ih]
    by_cases h : x = y
    · subst h; simp
    · have h2 : ¬ y = x := fun z => h z.symm
      simp [h, h2]
theorem sub_len {xs cs : List Str} (nd : xs.Nodup) (h : ∀ x ∈ xs, x ∈ cs) : xs.length ≤ cs.length := pigeon (f := some) cs xs nd fun x hx => ⟨x, h x hx, rfl⟩
/-! ### the task -/
structure Ins (ns : List Str) (mf : Str → List Str) (cs : List Str) : Prop where
  nd : ns.Nodup
  few : ns.length ≤ 8
  sub : ∀ n ∈ ns, ∀ c ∈ mf n, c ∈ cs
  ndm : ∀ n ∈ ns, (mf n).Nodup
  cfew : cs.length ≤ 4
  ne : ∀ n ∈ ns, mf n ≠ []
  sok : ∀ s, s ∈ ns ∨ s ∈ cs → PyData.strOk s = true
  nam : ∀ s, s ∈ ns ∨ s ∈ cs → G_is_name [.str s] = some (.bl true)
  nz : ∀ n ∈ ns, n ≠ ""
structure Sea (ns : List Str) (mf : Str → List Str) (sd : List (Str × Str)) : Prop where
  nd : (sd.map (·.1)).Nodup
  va : Va ns mf (lk sd)
theorem lk_mem {sd : List (Str × Str)} {c m : Str} (h : lk sd c = some m) : (c, m) ∈ sd := by
  induction sd with
  | nil => cases h
  | cons p sd ih =>
    have h : (if p.1 = c then some p.2 else lk sd c) = some m := h
    split at h
    · next e => cases h; rw [← e]; exact List.mem_cons_self
    · exact List.mem_cons_of_mem _ (ih h)
theorem mem_lk {sd : List (Str × Str)} {c m : Str} (nd : (sd.map (·.1)).Nodup) (h : (c, m) ∈ sd) : lk sd c = some m := by
  induction sd with
  | nil => cases h
  | cons p sd ih =>
    rw [List.map_cons, List.nodup_cons] at nd
    show (if p.1 = c then some p.2 else lk sd c) = some m
    rcases List.mem_cons.mp h with rfl | h
    · exact if_pos rfl
    · rw [if_neg fun z => nd.1 (by rw [z]; exact List.mem_map.mpr ⟨_, h, rfl⟩)]
      exact ih nd.2 h
theorem run_vals {sd : List (Str × Str)} (nd : (sd.map (·.1)).Nodup) (x : Str) : x ∈ sd.map (·.2) ↔ Run (lk sd) x := by
  constructor
  · intro h
    obtain ⟨p, hp, e⟩ := List.mem_map.mp h
    exact ⟨p.1, by rw [← e]; exact mem_lk nd hp⟩
  · rintro ⟨c, h⟩
    exact List.mem_map.mpr ⟨_, lk_mem h, rfl⟩
section
variable {ns : List Str} {mf : Str → List Str} {cs : List Str} {sd : List (Str × Str)} {t : Str}
theorem Ins.rch (I : Ins ns mf cs) (S : Sea ns mf sd) (ht : t ∈ ns) {c : Str} (h : Rch mf (lk sd) t c) : c ∈ cs := by
  cases h with
  | one h => exact I.sub t ht c h
  | ext h e hd => exact I.sub _ (S.va.mem _ _ e) c hd
theorem Ins.mlen (I : Ins ns mf cs) {n : Str} (hn : n ∈ ns) : (mf n).length ≤ 4 := Nat.le_trans (sub_len (I.ndm n hn) (I.sub n hn)) I.cfew
/-! ### reach -/
def RJ (mf : Str → List Str) (cs : List Str) (f : Str → Option Str) (t mo : Str) (rest found mvs : List Str) (B : Nat) : Prop :=
  found.Nodup ∧ (∀ c ∈ found, Rch mf f t c) ∧ (∀ m ∈ mvs, m = t ∨ ∃ c ∈ found, f c = some m) ∧
  (∀ m, (m = t ∨ ∃ c ∈ found, f c = some m) → m ∈ mvs ∨ ∀ d ∈ mf m, d ∈ found ∨ (m = mo ∧ d ∈ rest)) ∧ mvs.length + cs.length ≤ B + found.length
theorem RJ.old {f : Str → Option Str} {mo c : Str} {rest found mvs : List Str} {B : Nat} (h : RJ mf cs f t mo (c :: rest) found mvs B) (hc : c ∈ found) : RJ mf cs f t mo rest found mvs B := by
  obtain ⟨h1, h2, h3, h4, h5⟩ := h
  refine ⟨h1, h2, h3, fun m hm => (h4 m hm).imp id fun k d hd => ?_, h5⟩
  rcases k d hd with k | ⟨k1, k2⟩
  · exact .inl k
  · rcases List.mem_cons.mp k2 with rfl | k2
    · exact .inl hc
    · exact .inr ⟨k1, k2⟩
theorem RJ.new {f : Str → Option Str} {mo c : Str} {rest found mvs : List Str} {B : Nat} (h : RJ mf cs f t mo (c :: rest) found mvs B) (hc : c ∉ found) (hr : Rch mf f t c) :
    RJ mf cs f t mo rest (found ++ [c]) (match f c with | some m => mvs ++ [m] | none => mvs) B := by
  obtain ⟨h1, h2, h3, h4, h5⟩ := h
  have src : ∀ m, (m = t ∨ ∃ x ∈ found, f x = some m) → m = t ∨ ∃ x ∈ found ++ [c], f x = some m := fun m h => h.imp id fun ⟨x, a, b⟩ => ⟨x, List.mem_append_left _ a, b⟩
  refine ⟨?_, fun x hx => ?_, ?_, fun m hm => ?_, ?_⟩
  · rw [List.nodup_append]
    exact ⟨h1, by simp, fun a ha b hb => by simp at hb; subst hb; exact fun z => hc (by rw [← z]; exact ha)⟩
  · rcases List.mem_append.mp hx with hx | hx
    · exact h2 x hx
    · simp at hx; subst hx; exact hr
  · cases e : f c with
    | none => exact fun m hm => src m (h3 m hm)
    | some k =>
      intro m hm
      rcases List.mem_append.mp hm with hm | hm
      · exact src m (h3 m hm)
      · simp at hm; subst hm; exact .inr ⟨c, by simp, e⟩
  · have keep : ∀ k, (k ∈ mvs ∨ ∀ d ∈ mf k, d ∈ found ∨ (k = mo ∧ d ∈ c :: rest)) → k ∈ (match f c with | some m => mvs ++ [m] | none => mvs) ∨ ∀ d ∈ mf k, d ∈ found ++ [c] ∨ (k = mo ∧ d ∈ rest) := fun k h => by
      rcases h with h | h
      · left
        cases f c with
        | none => exact h
        | some m => exact List.mem_append_left _ h
      · right
        intro d hd
        rcases h d hd with z | ⟨z1, z2⟩
        · exact .inl (List.mem_append_left _ z)
        · rcases List.mem_cons.mp z2 with rfl | z2
          · exact .inl (by simp)
          · exact .inr ⟨z1, z2⟩
    rcases hm with hm | ⟨x, hx, e⟩
    · exact keep m (h4 m (.inl hm))
    · rcases List.mem_append.mp hx with hx | hx
      · exact keep m (h4 m (.inr ⟨x, hx, e⟩))
      · simp at hx
        subst hx
        rw [e]
        exact .inl (by simp)
  · rw [List.length_append]
    cases f c with
    | none => simp only [List.length_singleton]; omega
    | some m => simp only [List.length_append, List.length_singleton]; omega
theorem reach_ok (I : Ins ns mf cs) (S : Sea ns mf sd) (ht : t ∈ ns) : ∃ R : List Str, G_reach [.dct (tbD ns mf), .dct (stD sd), .str t] = some (sL R) ∧ R.Nodup ∧ ∀ c, c ∈ R ↔ Rch mf (lk sd) t c := by
  have key := G_of (n := 3) (m := 4) (F := F_reach) (ds := [.dct (tbD ns mf), .dct (stD sd), .str t]) (Q := fun d => ∃ R : List Str, d = sL R ∧ R.Nodup ∧ ∀ c, c ∈ R ↔ Rch mf (lk sd) t c) rfl ?_
  · obtain ⟨d, e, R, rfl, a, b⟩ := key
    exact ⟨R, e, a, b⟩
  unfold F_reach
  simp [sml]
  refine W_while (fun m ρ _ => ∃ (found mvs : List Str) (x5 x6 : Option SV), ρ = [some (.val (.dct (tbD ns mf))), some (.val (.dct (stD sd))), some (.val (.str t)), some (.ol (found.map D.str)), some (.val (sL mvs)), x5, x6] ∧ m ≤ 5 ∧ RJ mf cs (lk sd) t t [] found mvs m)
    (Qn := fun ρ _ => ∃ (found : List Str) (x4 x5 x6 : Option SV), ρ = [some (.val (.dct (tbD ns mf))), some (.val (.dct (stD sd))), some (.val (.str t)), some (.ol (found.map D.str)), x4, x5, x6] ∧ found.Nodup ∧ ∀ c, c ∈ found ↔ Rch mf (lk sd) t c) (R := fun _ _ => False) ?_ (m := cs.length + 1) ⟨[], [t], none, none, rfl, by have := I.cfew; omega, ?_⟩ ?_ ?_ ?_
  · rintro m ρ _ ⟨found, mvs, x5, x6, rfl, hm5, J⟩
    cases mvs with
    | nil =>
      simp
      refine ⟨found, rfl, J.1, fun c => ⟨J.2.1 c, fun h => ?_⟩⟩
      induction h with
      | one h => exact ((J.2.2.2.1 t (.inl rfl)).resolve_left (fun z => nomatch z) _ h).resolve_right fun z => nomatch z.2
      | ext _ e h ih => exact ((J.2.2.2.1 _ (.inr ⟨_, ih, e⟩)).resolve_left (fun z => nomatch z) _ h).resolve_right fun z => nomatch z.2
    | cons mo mvs =>
      have hmo : mo = t ∨ ∃ c ∈ found, lk sd c = some mo := J.2.2.1 mo List.mem_cons_self
      have hns : mo ∈ ns := by
        rcases hmo with h | ⟨c, _, h⟩
        · rw [h]; exact ht
        · exact S.va.mem _ _ h
      simp [dget_tb hns, sort_strs (Nat.le_trans (I.mlen hns) (by decide))]
      have hm0 : mvs.length + 1 + cs.length ≤ m + found.length := J.2.2.2.2
      have hfl : found.length ≤ cs.length := sub_len J.1 fun c hc => I.rch S ht (J.2.1 c hc)
      have J0 : RJ mf cs (lk sd) t mo (srt (mf mo)) found mvs (m - 1) := by
        refine ⟨J.1, J.2.1, fun k hk => J.2.2.1 k (List.mem_cons_of_mem _ hk), fun k hk => ?_, by omega⟩
        rcases J.2.2.2.1 k hk with z | z
        · rcases List.mem_cons.mp z with rfl | z
          · exact .inr fun d hd => .inr ⟨rfl, (srt_perm _).mem_iff.mpr hd⟩
          · exact .inl z
        · exact .inr fun d hd => (z d hd).imp id fun q => nomatch q.2
      have hsrc : ∀ c ∈ srt (mf mo), Rch mf (lk sd) t c := fun c hc => by
        have hc := (srt_perm _).mem_iff.mp hc
        rcases hmo with rfl | ⟨x, hx, e⟩
        · exact .one hc
        · exact .ext (J.2.1 x hx) e hc
      refine W_for (fun xs ρ _ => ∃ (rest found mvs : List Str) (x5 : Option SV), xs = rest.map D.str ∧ ρ = [some (.val (.dct (tbD ns mf))), some (.val (.dct (stD sd))), some (.val (.str t)), some (.ol (found.map D.str)), some (.val (.lst (mvs.map D.str))), x5, some (.val (.str mo))] ∧ (∀ c ∈ rest, Rch mf (lk sd) t c) ∧ RJ mf cs (lk sd) t mo rest found mvs (m - 1)) (R := fun _ _ => False) ?_ ⟨_, _, _, _, rfl, rfl, hsrc, J0⟩ ?_ ?_
      · rintro x xs ρ _ ⟨rest, found, mvs, x5, e, rfl, hs, J⟩
        cases rest with
        | nil => cases e
        | cons c rest =>
          cases e
          have hfl : found.length ≤ cs.length := sub_len J.1 fun c hc => I.rch S ht (J.2.1 c hc)
          have hcs := I.cfew
          refine ⟨_, rfl, ?_⟩
          by_cases hc : c ∈ found
          · simp [any_mem, hc]
            exact ⟨rest, rfl, found, mvs, ⟨rfl, rfl⟩, fun x hx => hs x (List.mem_cons_of_mem _ hx), J.old hc⟩
          · have J' := J.new hc (hs c List.mem_cons_self)
            have hl : found.length ≤ 100000 := by omega
            have hml : mvs.length ≤ 1000 := by have := J.2.2.2.2; omega
            cases e : lk sd c with
            | none =>
              rw [e] at J'
              simp [any_mem, hc, appE, hl, e]
              exact ⟨rest, rfl, found ++ [c], mvs, ⟨by simp, by simp⟩, fun x hx => hs x (List.mem_cons_of_mem _ hx), J'⟩
            | some k =>
              rw [e] at J'
              have h2 : sml (mvs.map D.str ++ [D.str k]) = some (mvs.map D.str ++ [D.str k]) := sml_of (by simp; omega)
              simp [any_mem, hc, appE, hl, e, h2]
              exact ⟨rest, rfl, found ++ [c], mvs ++ [k], ⟨by simp, by simp⟩, fun x hx => hs x (List.mem_cons_of_mem _ hx), J'⟩
      · rintro ρ' _ ⟨rest, found, mvs, x5, e, rfl, hs, J⟩
        cases rest with
        | cons _ _ => cases e
        | nil =>
          refine ⟨m - 1, by omega, found, mvs, ⟨_, _, rfl⟩, by omega, J.1, J.2.1, J.2.2.1, fun k hk => (J.2.2.2.1 k hk).imp id fun q d hd => .inl ((q d hd).resolve_right fun z => nomatch z.2), J.2.2.2.2⟩
      · exact fun _ _ z => False.elim z
  · refine ⟨List.nodup_nil, (fun _ h => nomatch h), fun m hm => .inl (by simpa using hm), fun m hm => ?_, by simp; omega⟩
    rcases hm with rfl | ⟨c, hc, _⟩
    · exact .inl (by simp)
    · cases hc
  · have := I.cfew; omega
  · rintro ρ _ ⟨found, x4, x5, x6, rfl, a, b⟩
    simp
    exact ⟨found, rfl, a, b⟩
  · exact fun _ _ z => False.elim z
end
end MM
/-! Q4 -/
namespace MM
open PySem Q
/-! ### ends -/
def ix (ns : List Str) (n : Str) : Nat := (idxOf n ns).getD 0
theorem idxOf_mem {n : Str} : ∀ {ns : List Str}, n ∈ ns → idxOf n ns = some (ix ns n)
  | [], h => nomatch h
  | y :: ys, h => by
    unfold ix idxOf
    split
    · rfl
    · next e =>
      rw [idxOf_mem ((List.mem_cons.mp h).resolve_left fun z => e z.symm)]
      rfl
theorem ix_inj {ns : List Str} {a b : Str} (ha : a ∈ ns) (hb : b ∈ ns) (e : ix ns a = ix ns b) : a = b := by
  have h1 := (idxOf_some (idxOf_mem ha)).1
  have h2 := (idxOf_some (idxOf_mem hb)).1
  rw [e] at h1
  exact Option.some.inj (h1.symm.trans h2)
/-- what stands before t has a smaller number -/
theorem ix_split {t n : Str} {b : List Str} : ∀ {a : List Str}, t ∉ a → n ∈ a → ix (a ++ t :: b) n < ix (a ++ t :: b) t := by
  intro a ht hn
  have h1 := idxOf_some (idxOf_mem (show n ∈ a ++ t :: b by simp [hn]))
  have h2 := idxOf_some (idxOf_mem (show t ∈ a ++ t :: b by simp))
  obtain ⟨i, hi, e⟩ := List.mem_iff_getElem.mp hn
  have l1 : ix (a ++ t :: b) n ≤ i := by
    rcases Nat.lt_or_ge i (ix (a ++ t :: b) n) with z | z
    · exact absurd (by rw [List.getElem?_append_left hi, List.getElem?_eq_getElem hi, e]) (h1.2 i z)
    · exact z
  have l2 : a.length ≤ ix (a ++ t :: b) t := by
    rcases Nat.lt_or_ge (ix (a ++ t :: b) t) a.length with z | z
    · have q := h2.1
      rw [List.getElem?_append_left z] at q
      exact absurd (List.mem_of_getElem? q) ht
    · exact z
  omega
def endB (ns : List Str) (f : Str → Option Str) (t c : Str) : Bool := match f c with
  | none => true
  | some m => decide (ix ns t < ix ns m)
@[simp] theorem indexD_strs {n : Str} {ns : List Str} : indexD (.lst (ns.map .str)) (.str n) = (idxOf n ns).map fun (j : Nat) => D.int j := by simp [indexD]
section
variable {ns : List Str} {mf : Str → List Str} {cs : List Str} {sd : List (Str × Str)} {t : Str}
theorem is_end_eq (S : Sea ns mf sd) (ht : t ∈ ns) (c : Str) : G_is_end [sL ns, .dct (stD sd), .str t, .str c] = some (.bl (endB ns (lk sd) t c)) := by
  obtain ⟨d, e, q⟩ := G_of (n := 4) (m := 0) (F := F_is_end) (ds := [sL ns, .dct (stD sd), .str t, .str c]) (Q := fun d => d = .bl (endB ns (lk sd) t c)) rfl (by
    unfold F_is_end endB
    cases e : lk sd c with
    | none => simp [e]
    | some m => simp [e, idxOf_mem ht, idxOf_mem (S.va.mem _ _ e)])
  rw [show G_is_end _ = _ from e, q]
/-! ### ways as data -/
def wstr (ps : List (Str × Str)) : List Str := ps.flatMap fun p => [p.1, p.2]
abbrev wayD (ps : List (Str × Str)) : D := .tup ((wstr ps).map .str)
theorem wstr_snoc (ps : List (Str × Str)) (m c : Str) : wstr (ps ++ [(m, c)]) = wstr ps ++ [m, c] := by simp [wstr]
theorem wstr_len (ps : List (Str × Str)) : (wstr ps).length = 2 * ps.length := by
  induction ps with
  | nil => rfl
  | cons p ps ih =>
    show (p.1 :: p.2 :: wstr ps).length = _
    simp only [List.length_cons, ih]
    omega
theorem wstr_get (ps : List (Str × Str)) : ∀ (i : Nat), (wstr ps)[2 * i]? = (ps.map (·.1))[i]? ∧ (wstr ps)[2 * i + 1]? = (ps.map (·.2))[i]? := by
  induction ps with
  | nil => intro i; simp [wstr]
  | cons p ps ih =>
    intro i
    have e : wstr (p :: ps) = p.1 :: p.2 :: wstr ps := rfl
    rw [e]
    cases i with
    | zero => simp
    | succ i =>
      rw [show 2 * (i + 1) = 2 * i + 1 + 1 by omega]
      simpa using ih i
theorem filterMap_range {β : Type} (g : Nat → Option β) : ∀ (n : Nat) (xs : List β), xs.length = n → (∀ i, i < xs.length → g i = xs[i]?) → (List.range n).filterMap g = xs
  | 0, xs, hn, _ => by rw [List.length_eq_zero_iff.mp hn]; rfl
  | n + 1, xs, hn, h => by
    rcases List.eq_nil_or_concat xs with rfl | ⟨ys, y, e⟩
    · cases hn
    · rw [List.concat_eq_append] at e
      subst e
      have hl : ys.length = n := by simpa using hn
      have ih := filterMap_range g n ys hl fun i hi => by rw [h i (by simp; omega), List.getElem?_append_left hi]
      have hy := h n (by simp; omega)
      rw [List.range_succ, List.filterMap_append, ih]
      have e2 : (ys ++ [y])[n]? = some y := by rw [← hl]; simp
      rw [e2] at hy
      simp [hy]
theorem step_movers (ps : List (Str × Str)) : stepOf ((wstr ps).map D.str) none 2 = (ps.map (·.1)).map D.str := by
  have hl : (((wstr ps).map D.str).length : Int) = 2 * (ps.length : Int) := by rw [List.length_map, wstr_len]; omega
  unfold stepOf
  rw [hl]
  have e1 : Builtin.Slice.sliceAdjust none none 2 (2 * (ps.length : Int)) = (0, 2 * (ps.length : Int)) := rfl
  have e2 : Builtin.Slice.slicePlaces 0 (2 * (ps.length : Int)) 2 = ps.length := by
    unfold Builtin.Slice.slicePlaces
    simp only [show (2 : Int) > 0 by decide, if_true]
    split <;> omega
  rw [e1]
  simp only [e2]
  have := filterMap_range (fun m => ((wstr ps).map D.str)[((0 : Int) + (m : Int) * 2).toNat]?) ps.length ((ps.map (·.1)).map D.str) (by simp) fun i hi => by
    rw [show ((0 : Int) + (i : Int) * 2).toNat = 2 * i by omega, List.getElem?_map, (wstr_get ps i).1, List.getElem?_map]
    simp
  simpa using this
theorem step_places (ps : List (Str × Str)) (h : ps ≠ []) : stepOf ((wstr ps).map D.str) (some 1) 2 = (ps.map (·.2)).map D.str := by
  have hl : (((wstr ps).map D.str).length : Int) = 2 * (ps.length : Int) := by rw [List.length_map, wstr_len]; omega
  have hp : 0 < ps.length := List.length_pos_iff.mpr h
  unfold stepOf
  rw [hl]
  have e1 : Builtin.Slice.sliceAdjust (some 1) none 2 (2 * (ps.length : Int)) = (1, 2 * (ps.length : Int)) := by
    unfold Builtin.Slice.sliceAdjust
    simp
    omega
  have e2 : Builtin.Slice.slicePlaces 1 (2 * (ps.length : Int)) 2 = ps.length := by
    unfold Builtin.Slice.slicePlaces
    simp only [show (2 : Int) > 0 by decide, if_true]
    split <;> omega
  rw [e1]
  simp only [e2]
  have := filterMap_range (fun m => ((wstr ps).map D.str)[((1 : Int) + (m : Int) * 2).toNat]?) ps.length ((ps.map (·.2)).map D.str) (by simp) fun i hi => by
    rw [show ((1 : Int) + (i : Int) * 2).toNat = 2 * i + 1 by omega, List.getElem?_map, (wstr_get ps i).2, List.getElem?_map]
    simp
  simpa using this
theorem way_last (ps : List (Str × Str)) (m c : Str) : idxL (wayD (ps ++ [(m, c)])) (.int (-1)) = some (.str c) := by
  show L2.atI ((wstr (ps ++ [(m, c)])).map D.str) (-1) = _
  rw [wstr_snoc, List.map_append]
  show L2.atI (List.map D.str (wstr ps) ++ [D.str m, D.str c]) (-1) = _
  rw [show List.map D.str (wstr ps) ++ [D.str m, D.str c] = (List.map D.str (wstr ps) ++ [D.str m]) ++ [D.str c] by simp]
  exact L2.atI_last _ _
/-- a path's last place, as the text reads it -/
theorem pth_last {f : Str → Option Str} {ps : List (Str × Str)} {c : Str} (h : Pth mf f t ps c) : idxL (wayD ps) (.int (-1)) = some (.str c) := by
  cases h with
  | one h => exact way_last [] t c
  | ext h0 e h n => exact way_last _ _ _
theorem pth_ne {f : Str → Option Str} {ps : List (Str × Str)} {c : Str} (h : Pth mf f t ps c) : ps ≠ [] := by
  cases h <;> simp
theorem pth_len (I : Ins ns mf cs) (S : Sea ns mf sd) (ht : t ∈ ns) {ps : List (Str × Str)} {c : Str} (h : Pth mf (lk sd) t ps c) : ps.length ≤ 4 := by
  have := sub_len h.nodup (fun d hd => by
    obtain ⟨qs, hq⟩ := h.upto d hd
    exact I.rch S ht hq.rch)
  rw [List.length_map] at this
  exact Nat.le_trans this I.cfew
end
end MM
/-! Q5 -/
namespace MM
open PySem Q
@[simp] theorem wipe_nil (ρ : Env) : wipeE ρ [] = ρ := rfl
@[simp] theorem wipe_cons (ρ : Env) (v : Nat) (vs : List Nat) : wipeE ρ (v :: vs) = (wipeE ρ vs).set v none := rfl
def exts (mf : Str → List Str) (f : Str → Option Str) (ps : List (Str × Str)) (c : Str) : List (List (Str × Str)) := match f c with
  | none => []
  | some m => ((srt (mf m)).filter fun d => !(ps.map (·.2)).any (· == d)).map fun d => ps ++ [(m, d)]
theorem wayD_snoc (ps : List (Str × Str)) (m d : Str) : wayD (ps ++ [(m, d)]) = .tup ((wstr ps).map D.str ++ [D.str m, D.str d]) := by
  unfold wayD
  rw [wstr_snoc, List.map_append]
  rfl
section
variable {ns : List Str} {mf : Str → List Str} {cs : List Str} {sd : List (Str × Str)} {t : Str}
theorem ways_on_eq (I : Ins ns mf cs) (S : Sea ns mf sd) (ht : t ∈ ns) {ps : List (Str × Str)} {c : Str} (h : Pth mf (lk sd) t ps c) : G_ways_on [.dct (tbD ns mf), .dct (stD sd), wayD ps] = some (.lst ((exts mf (lk sd) ps c).map wayD)) := by
  obtain ⟨d, e, q⟩ := G_of (n := 3) (m := 2) (F := F_ways_on) (ds := [.dct (tbD ns mf), .dct (stD sd), wayD ps]) (Q := fun d => d = .lst ((exts mf (lk sd) ps c).map wayD)) rfl (by
    have hl := pth_last h
    have hp := pth_len I S ht h
    unfold wayD at hl
    unfold F_ways_on exts
    cases e : lk sd c with
    | none => simp [e, hl, sml]
    | some m =>
      have hm := S.va.mem _ _ e
      have hml := I.mlen hm
      have hsl : (srt (mf m)).length ≤ 4 := by rw [(srt_perm _).length_eq]; exact hml
      have hwl : (wstr ps).length ≤ 8 := by rw [wstr_len]; omega
      simp [e, hl, dget_tb hm, sort_strs (Nat.le_trans hml (by decide))]
      rw [sml_of (by simp; omega)]
      simp
      refine W_comp D.str (fun d => !(ps.map (·.2)).any (· == d)) (fun d => wayD (ps ++ [(m, d)])) (srt (mf m)) (fun d hd => ⟨_, rfl, ?_, fun _ => ?_⟩) ?_
      · simp [step_places ps (pth_ne h)]
        rw [sml_of (by simp; omega)]
        simp [inD]
      · simp
        rw [sml_of (by simp; omega)]
        simp [wstr_snoc]
      · simp)
  rw [show G_ways_on _ = _ from e, q]
/-! ### shortest -/
def SJ (mf : Str → List Str) (cs : List Str) (f : Str → Option Str) (t : Str) (goals : List Str) (q : List (List (Str × Str))) (seen : List Str) (B : Nat) : Prop :=
  seen.Nodup ∧ (∀ c ∈ seen, c ∈ cs ∧ c ∉ goals) ∧ (∀ ps ∈ q, ∃ c, Pth mf f t ps c ∧ ∀ d ∈ ps.map (·.2), d ≠ c → d ∈ seen) ∧
  (∀ d, (d ∈ mf t ∨ ∃ c ∈ seen, ∃ m, f c = some m ∧ d ∈ mf m) → d ∈ seen ∨ ∃ ps ∈ q, Pth mf f t ps d) ∧ q.length + 5 * cs.length ≤ B + 5 * seen.length
theorem exts_len (I : Ins ns mf cs) (S : Sea ns mf sd) (ps : List (Str × Str)) (c : Str) : (exts mf (lk sd) ps c).length ≤ 4 := by
  unfold exts
  cases e : lk sd c with
  | none => simp
  | some m =>
    simp only [List.length_map]
    refine Nat.le_trans (List.length_filter_le _ _) ?_
    rw [(srt_perm _).length_eq]
    exact I.mlen (S.va.mem _ _ e)
theorem Q.Pth.det {f : Str → Option Str} {ps : List (Str × Str)} {c d : Str} (h : Pth mf f t ps c) (h2 : Pth mf f t ps d) : c = d := by
  have e1 := pth_last h
  rw [pth_last h2] at e1
  injection e1 with e1
  injection e1 with e1
  exact e1.symm
theorem SJ.old {f : Str → Option Str} {goals : List Str} {ps : List (Str × Str)} {q : List (List (Str × Str))} {seen : List Str} {B : Nat} {c : Str} (h : SJ mf cs f t goals (ps :: q) seen B) (hp : Pth mf f t ps c) (hc : c ∈ seen) : SJ mf cs f t goals q seen (B - 1) := by
  obtain ⟨h1, h2, h3, h4, h5⟩ := h
  refine ⟨h1, h2, fun x hx => h3 x (List.mem_cons_of_mem _ hx), fun d hd => ?_, by simp only [List.length_cons] at h5; omega⟩
  rcases h4 d hd with z | ⟨x, hx, hpx⟩
  · exact .inl z
  · rcases List.mem_cons.mp hx with rfl | hx
    · exact .inl (by rw [hpx.det hp]; exact hc)
    · exact .inr ⟨x, hx, hpx⟩
theorem SJ.new (I : Ins ns mf cs) (S : Sea ns mf sd) (ht : t ∈ ns) {goals : List Str} {ps : List (Str × Str)} {q : List (List (Str × Str))} {seen : List Str} {B : Nat} {c : Str} (h : SJ mf cs (lk sd) t goals (ps :: q) seen B) (hp : Pth mf (lk sd) t ps c) (hc : c ∉ seen) (hg : c ∉ goals) :
    SJ mf cs (lk sd) t goals (q ++ exts mf (lk sd) ps c) (seen ++ [c]) (B - 1) := by
  obtain ⟨h1, h2, h3, h4, h5⟩ := h
  have hcs : c ∈ cs := I.rch S ht hp.rch
  have hps : ∀ d ∈ ps.map (·.2), d ≠ c → d ∈ seen := by
    obtain ⟨c', a, b⟩ := h3 ps List.mem_cons_self
    rw [hp.det a]
    exact b
  have nd : (seen ++ [c]).Nodup := by
    rw [List.nodup_append]
    exact ⟨h1, by simp, fun a ha b hb => by simp at hb; subst hb; exact fun z => hc (by rw [← z]; exact ha)⟩
  have sl : seen.length + 1 ≤ cs.length := by
    have := sub_len nd (cs := cs) fun x hx => by
      rcases List.mem_append.mp hx with hx | hx
      · exact (h2 x hx).1
      · simp at hx; subst hx; exact hcs
    simpa using this
  refine ⟨nd, fun x hx => ?_, fun x hx => ?_, fun d hd => ?_, ?_⟩
  · rcases List.mem_append.mp hx with hx | hx
    · exact h2 x hx
    · simp at hx; subst hx; exact ⟨hcs, hg⟩
  · rcases List.mem_append.mp hx with hx | hx
    · obtain ⟨c', a, b⟩ := h3 x (List.mem_cons_of_mem _ hx)
      exact ⟨c', a, fun d hd n => List.mem_append_left _ (b d hd n)⟩
    · unfold exts at hx
      cases e : lk sd c with
      | none => rw [e] at hx; cases hx
      | some m =>
        rw [e] at hx
        obtain ⟨d, hd, rfl⟩ := List.mem_map.mp hx
        obtain ⟨hd1, hd2⟩ := List.mem_filter.mp hd
        have hd3 : d ∉ ps.map (·.2) := by
          rw [any_mem] at hd2
          simpa using hd2
        refine ⟨d, .ext hp e ((srt_perm _).mem_iff.mp hd1) hd3, fun y hy ny => ?_⟩
        rw [List.map_append, List.mem_append] at hy
        rcases hy with hy | hy
        · by_cases yc : y = c
          · simp [yc]
          · exact List.mem_append_left _ (hps y hy yc)
        · simp at hy; exact absurd hy ny
  · have old : (d ∈ seen ∨ ∃ x ∈ ps :: q, Pth mf (lk sd) t x d) → d ∈ seen ++ [c] ∨ ∃ x ∈ q ++ exts mf (lk sd) ps c, Pth mf (lk sd) t x d := fun z => by
      rcases z with z | ⟨x, hx, hpx⟩
      · exact .inl (List.mem_append_left _ z)
      · rcases List.mem_cons.mp hx with rfl | hx
        · exact .inl (by rw [hpx.det hp]; simp)
        · exact .inr ⟨x, List.mem_append_left _ hx, hpx⟩
    rcases hd with hd | ⟨x, hx, m, e, hd⟩
    · exact old (h4 d (.inl hd))
    · rcases List.mem_append.mp hx with hx | hx
      · exact old (h4 d (.inr ⟨x, hx, m, e, hd⟩))
      · simp at hx
        subst hx
        by_cases hdp : d ∈ ps.map (·.2)
        · by_cases dc : d = x
          · exact .inl (by simp [dc])
          · exact .inl (List.mem_append_left _ (hps d hdp dc))
        · refine .inr ⟨ps ++ [(m, d)], List.mem_append_right _ ?_, .ext hp e hd hdp⟩
          unfold exts
          rw [e]
          refine List.mem_map.mpr ⟨d, List.mem_filter.mpr ⟨(srt_perm _).mem_iff.mpr hd, ?_⟩, rfl⟩
          rw [any_mem]
          simpa using hdp
  · have := exts_len I S ps c
    simp only [List.length_cons, List.length_append, List.length_singleton] at *
    omega
theorem shortest_ok (I : Ins ns mf cs) (S : Sea ns mf sd) (ht : t ∈ ns) (goals : List Str) : ∃ d, G_shortest [.dct (tbD ns mf), .dct (stD sd), .str t, sL goals] = some d ∧
    ((d = .non ∧ ∀ c, Rch mf (lk sd) t c → c ∉ goals) ∨ ∃ ps c, d = wayD ps ∧ Pth mf (lk sd) t ps c ∧ c ∈ goals) := by
  refine G_of (n := 4) (m := 4) (F := F_shortest) rfl ?_
  have hml := I.mlen ht
  have hsl : (srt (mf t)).length ≤ 4 := by rw [(srt_perm _).length_eq]; exact hml
  unfold F_shortest
  simp [dget_tb ht, sort_strs (Nat.le_trans hml (by decide))]
  rw [sml_of (by simp; omega)]
  simp [sml]
  refine W_comp D.str (fun _ => true) (fun d => wayD [(t, d)]) (srt (mf t)) (fun d hd => ⟨_, rfl, ?_, fun _ => ?_⟩) ?_
  · simp
  · simp [wstr, sml]
  · have ef : (List.filter (fun _ => true) (srt (mf t))) = srt (mf t) := List.filter_eq_self.mpr fun _ _ => rfl
    rw [ef]
    refine W_while (fun m ρ _ => ∃ (q : List (List (Str × Str))) (seen : List Str) (x6 x7 : Option SV), ρ = [some (.val (.dct (tbD ns mf))), some (.val (.dct (stD sd))), some (.val (.str t)), some (.val (sL goals)), some (.val (.lst (q.map wayD))), some (.ol (seen.map D.str)), x6, x7] ∧ m ≤ 30 ∧ SJ mf cs (lk sd) t goals q seen m)
      (Qn := fun ρ _ => ∀ c, Rch mf (lk sd) t c → c ∉ goals) (R := fun d _ => ∃ ps c, d = wayD ps ∧ Pth mf (lk sd) t ps c ∧ c ∈ goals) ?_ (m := 5 * cs.length + (srt (mf t)).length) ⟨(srt (mf t)).map fun d => [(t, d)], [], none, none, by simp, by have := I.cfew; omega, ?_⟩ ?_ ?_ ?_
    · rintro m ρ _ ⟨q, seen, x6, x7, rfl, hm, J⟩
      cases q with
      | nil =>
        simp
        obtain ⟨h1, h2, h3, h4, h5⟩ := J
        have all : ∀ c, Rch mf (lk sd) t c → c ∈ seen := fun c h => by
          induction h with
          | one h => exact (h4 _ (.inl h)).resolve_right fun z => nomatch z
          | ext _ e h ih => exact (h4 _ (.inr ⟨_, ih, _, e, h⟩)).resolve_right fun z => nomatch z
        exact fun c h => (h2 c (all c h)).2
      | cons ps q =>
        obtain ⟨c, hp, _⟩ := J.2.2.1 ps List.mem_cons_self
        have hl := pth_last hp
        have hw := ways_on_eq I S ht hp
        unfold wayD at hl hw
        have hq : q.length ≤ 1000 := by
          have h5 := J.2.2.2.2
          have := sub_len J.1 fun c hc => (J.2.1 c hc).1
          simp only [List.length_cons] at h5
          omega
        have hse : seen.length ≤ 100000 := by
          have := sub_len J.1 fun c hc => (J.2.1 c hc).1
          have := I.cfew
          omega
        have hex := exts_len I S ps c
        by_cases hg : c ∈ goals
        · simp [hl, any_mem, hg]
          exact ⟨ps, rfl, c, hp, hg⟩
        · by_cases hs : c ∈ seen
          · simp [hl, any_mem, hg, hs]
            exact ⟨m - 1, by have := J.2.2.2.2; have := sub_len J.1 fun c hc => (J.2.1 c hc).1; simp only [List.length_cons] at *; omega, q, seen, ⟨rfl, rfl⟩, by omega, J.old hp hs⟩
          · have hcat : catL (.lst (q.map wayD)) (.lst ((exts mf (lk sd) ps c).map wayD)) = some ((q ++ exts mf (lk sd) ps c).map wayD) := by
              show sml _ = _
              rw [sml_of (by simp; omega)]
              simp
            unfold wayD at hcat
            simp [hl, any_mem, hg, hs, appE, hse]
            rw [hw]
            refine ⟨_, rfl, W_lft' hcat ⟨m - 1, ?_, q ++ exts mf (lk sd) ps c, seen ++ [c], ⟨rfl, by simp⟩, by omega, J.new I S ht hp hs hg⟩⟩
            have := J.2.2.2.2
            have := sub_len J.1 fun c hc => (J.2.1 c hc).1
            simp only [List.length_cons] at *
            omega
    · refine ⟨List.nodup_nil, (fun _ h => nomatch h), fun ps hps => ?_, fun d hd => ?_, by simp; omega⟩
      · obtain ⟨d, hd, rfl⟩ := List.mem_map.mp hps
        exact ⟨d, .one ((srt_perm _).mem_iff.mp hd), fun y hy n => absurd (by simpa using hy) n⟩
      · rcases hd with hd | ⟨_, z, _⟩
        · exact .inr ⟨[(t, d)], List.mem_map.mpr ⟨d, (srt_perm _).mem_iff.mpr hd, rfl⟩, .one hd⟩
        · cases z
    · have := I.cfew; omega
    · intro ρ _ h
      simp
      exact h
    · rintro d _ ⟨ps, c, e, h1, h2⟩
      exact .inr ⟨ps, e, c, h1, h2⟩
/-! ### right_ends_of -/
theorem amax_mem {α : Type} (kf : α → Int) : ∀ (xs : List α) (b : α), amax kf b xs ∈ b :: xs
  | [], b => List.mem_cons_self
  | x :: xs, b => by
    unfold amax
    have := amax_mem kf xs (if kf x > kf b then x else b)
    rcases List.mem_cons.mp this with e | h
    · rw [e]; split <;> simp
    · exact List.mem_cons_of_mem _ (List.mem_cons_of_mem _ h)
theorem amax_ge {α : Type} (kf : α → Int) : ∀ (xs : List α) (b : α), ∀ y ∈ b :: xs, kf y ≤ kf (amax kf b xs)
  | [], b, y, h => by
    rw [List.mem_singleton.mp h]
    exact Int.le_refl _
  | x :: xs, b, y, h => by
    unfold amax
    have g := amax_ge kf xs (if kf x > kf b then x else b)
    have hb := g (if kf x > kf b then x else b) List.mem_cons_self
    rcases List.mem_cons.mp h with rfl | h
    · refine Int.le_trans ?_ hb
      split <;> omega
    · rcases List.mem_cons.mp h with rfl | h
      · refine Int.le_trans ?_ hb
        split <;> omega
      · exact g y (List.mem_cons_of_mem _ h)
theorem right_ends_ok (I : Ins ns mf cs) (S : Sea ns mf sd) (ht : t ∈ ns) : ∃ L : List Str, G_right_ends_of [.dct (tbD ns mf), .dct (stD sd), sL ns, .str t] = some (sL L) ∧
    (∀ c ∈ L, Rch mf (lk sd) t c ∧ endB ns (lk sd) t c = true) ∧ ((∃ c, Rch mf (lk sd) t c ∧ endB ns (lk sd) t c = true) → ∃ c, c ∈ L) := by
  obtain ⟨R, eR, nR, hR⟩ := reach_ok I S ht
  have key := G_of (n := 4) (m := 4) (F := F_right_ends_of) (ds := [.dct (tbD ns mf), .dct (stD sd), sL ns, .str t]) (Q := fun d => ∃ L : List Str, d = sL L ∧
    (∀ c ∈ L, Rch mf (lk sd) t c ∧ endB ns (lk sd) t c = true) ∧ ((∃ c, Rch mf (lk sd) t c ∧ endB ns (lk sd) t c = true) → ∃ c, c ∈ L)) rfl ?_
  · obtain ⟨d, e, L, rfl, a, b⟩ := key
    exact ⟨L, e, a, b⟩
  have hRl : R.length ≤ 4 := Nat.le_trans (sub_len nR fun c hc => I.rch S ht ((hR c).mp hc)) I.cfew
  unfold sL at eR
  unfold F_right_ends_of
  simp [eR]
  rw [sml_of (by simp; omega)]
  simp
  refine W_comp D.str (fun c => !(lk sd c).isSome) D.str R (fun d hd => ⟨_, rfl, ?_, fun _ => ?_⟩) ?_
  · simp
  · simp
  generalize hfr : R.filter (fun c => !(lk sd c).isSome) = fr
  have hfr2 : ∀ c, c ∈ fr ↔ Rch mf (lk sd) t c ∧ lk sd c = none := fun c => by
    rw [← hfr, List.mem_filter, hR]
    simp
  cases fr with
  | cons c0 fr =>
    simp
    refine ⟨c0 :: fr, by simp, fun c hc => ?_, fun _ _ _ => ⟨c0, List.mem_cons_self⟩⟩
    obtain ⟨h1, h2⟩ := (hfr2 c).mp hc
    exact ⟨h1, by unfold endB; rw [h2]⟩
  | nil =>
    have nofree : ∀ c ∈ R, ∃ m, lk sd c = some m := fun c hc => by
      cases e : lk sd c with
      | none => exact nomatch (hfr2 c).mpr ⟨(hR c).mp hc, e⟩
      | some m => exact ⟨m, rfl⟩
    obtain ⟨b, bs, rfl⟩ : ∃ b bs, R = b :: bs := by
      cases R with
      | cons b bs => exact ⟨b, bs, rfl⟩
      | nil =>
        have := I.ne t ht
        cases q : mf t with
        | nil => exact absurd q this
        | cons c l => exact nomatch (hR c).mpr (.one (by rw [q]; simp))
    have hkey : ∀ c ∈ b :: bs, ∃ m, lk sd c = some m ∧ keyI ns (stD sd) c = some (ix ns m) := fun c hc => by
      obtain ⟨m, e⟩ := nofree c hc
      refine ⟨m, e, ?_⟩
      unfold keyI
      simp [e, idxOf_mem (S.va.mem _ _ e)]
    have hall : ((b :: bs).all fun c => (keyI ns (stD sd) c).isSome) = true := List.all_eq_true.mpr fun c hc => by
      obtain ⟨m, _, e⟩ := hkey c hc
      rw [e]; rfl
    generalize hw : amax (fun c => (((keyI ns (stD sd) c).getD 0 : Nat) : Int)) b bs = w
    have hwm : w ∈ b :: bs := by rw [← hw]; exact amax_mem _ _ _
    have hwg : ∀ y ∈ b :: bs, (((keyI ns (stD sd) y).getD 0 : Nat) : Int) ≤ (((keyI ns (stD sd) w).getD 0 : Nat) : Int) := fun y hy => by rw [← hw]; exact amax_ge (fun c => (((keyI ns (stD sd) c).getD 0 : Nat) : Int)) bs b y hy
    have hmax : maxF 4 2 1 7 [some (.val (.dct (tbD ns mf))), some (.val (.dct (stD sd))), some (.val (.lst (ns.map .str))), some (.val (.str t)), some (.val (.lst ((b :: bs).map .str))), some (.val (.lst [])), none, none] = some (.str w) := by
      unfold maxF
      have t1 : txts ((b :: bs).map D.str) = some (b :: bs) := txts_map _
      simp only [vV_get, List.getElem?_cons_zero, List.getElem?_cons_succ, t1, txts_map, hall, if_true, hw]
    have he := is_end_eq S ht w
    unfold sL at he
    simp
    rw [show List.map D.str (b :: bs) = D.str b :: List.map D.str bs from rfl] at hmax
    rw [hmax]
    simp [he]
    cases q : endB ns (lk sd) t w with
    | true =>
      simp [sml]
      exact ⟨[w], rfl, by simpa using ⟨(hR w).mp hwm, q⟩, fun _ _ _ => ⟨w, by simp⟩⟩
    | false =>
      simp [sml]
      intro c hc
      refine Bool.eq_false_iff.mpr fun hce => ?_
      obtain ⟨m, e1, e2⟩ := hkey c ((hR c).mpr hc)
      obtain ⟨m', e3, e4⟩ := hkey w hwm
      have h1 := hwg c ((hR c).mpr hc)
      rw [e2, e4] at h1
      unfold endB at q hce
      rw [e3] at q
      rw [e1] at hce
      simp at q hce h1
      omega
end
end MM
/-! Q6 -/
namespace MM
open PySem Q
/-! ### tupled, seats_of -/
theorem tupled_str (n : Nat) (s : Str) : G_tupled (n + 1) [.str s] = some (.str s) := by
  obtain ⟨d, e, q⟩ := G_of (n := 1) (m := 1) (F := F_tupled (G_tupled n)) (ds := [.str s]) (Q := fun d => d = .str s) rfl (by
    unfold F_tupled
    have h : isiD ["list", "tuple"] (.str s) = some (.bl false) := rfl
    simp [h])
  rw [show G_tupled (n + 1) [.str s] = some d from e, q]
theorem tupled_seq (n : Nat) {d : D} {β : Type} {xs : List β} (em g : β → D) (hs : seqOf d = some (xs.map em)) (hi : isiD ["list", "tuple"] d = some (.bl true)) (hl : xs.length ≤ 100000) (h : ∀ x ∈ xs, G_tupled n [em x] = some (g x)) : G_tupled (n + 1) [d] = some (.tup (xs.map g)) := by
  obtain ⟨d', e, q⟩ := G_of (n := 1) (m := 1) (F := F_tupled (G_tupled n)) (ds := [d]) (Q := fun r => r = .tup (xs.map g)) rfl (by
    unfold F_tupled
    simp [hi, hs]
    rw [sml_of (by simp; omega)]
    simp
    refine W_comp em (fun _ => true) g xs (fun x hx => ⟨_, rfl, ?_, fun _ => ?_⟩) ?_
    · simp
    · simp [h x hx]
    · have ef : (List.filter (fun _ => true) xs) = xs := List.filter_eq_self.mpr fun _ _ => rfl
      simp [ef])
  rw [show G_tupled (n + 1) [d] = some d' from e, q]
abbrev tp2 (p : Str × Str) : D := .tup [.str p.1, .str p.2]
abbrev pr2 (p : Str × Str) : D := .pr (.str p.1) (.str p.2)
abbrev ls2 (p : Str × Str) : D := .lst [.str p.1, .str p.2]
theorem tupled_two (n : Nat) {d : D} {a b : Str} (hs : seqOf d = some [.str a, .str b]) (hi : isiD ["list", "tuple"] d = some (.bl true)) : G_tupled (n + 2) [d] = some (.tup [.str a, .str b]) :=
  tupled_seq (n + 1) (xs := [a, b]) D.str D.str hs hi (by simp) fun x _ => tupled_str n x
theorem tupled_rows (n : Nat) {d : D} {sd : List (Str × Str)} (em : Str × Str → D) (hs : seqOf d = some (sd.map em)) (hi : isiD ["list", "tuple"] d = some (.bl true)) (hl : sd.length ≤ 100000) (h : ∀ p, seqOf (em p) = some [.str p.1, .str p.2]) (h2 : ∀ p, isiD ["list", "tuple"] (em p) = some (.bl true)) :
    G_tupled (n + 3) [d] = some (.tup (sd.map tp2)) := tupled_seq (n + 2) em tp2 hs hi hl fun p _ => tupled_two n (h p) (h2 p)
theorem pairs_tp (sd : List (Str × Str)) : pairsD (sd.map tp2) = some (stD sd) := by
  induction sd with
  | nil => rfl
  | cons p sd ih =>
    rw [List.map_cons]
    unfold pairsD
    rw [ih]
    rfl
def putS (sd : List (Str × Str)) (x d : Str) : List (Str × Str) := if (sd.any fun p => decide (p.1 = x)) = true then sd.map (fun p => if p.1 = x then (p.1, d) else p) else sd ++ [(x, d)]
theorem dput_st (sd : List (Str × Str)) (x d : Str) : dput (stD sd) x (.str d) = stD (putS sd x d) := by
  unfold dput putS stD
  rw [List.any_map]
  have e : ((fun p : Str × D => decide (p.1 = x)) ∘ fun p : Str × Str => (p.1, D.str p.2)) = fun p => decide (p.1 = x) := rfl
  rw [e]
  split
  · rw [List.map_map, List.map_map]
    refine List.map_congr_left fun p _ => ?_
    show (if p.1 = x then (p.1, D.str d) else (p.1, D.str p.2)) = ((if p.1 = x then (p.1, d) else p).1, D.str (if p.1 = x then (p.1, d) else p).2)
    split <;> rfl
  · rw [List.map_append]; rfl
theorem put_keys (sd : List (Str × Str)) (x d : Str) : (putS sd x d).map (·.1) = if x ∈ sd.map (·.1) then sd.map (·.1) else sd.map (·.1) ++ [x] := by
  have hm : (sd.any fun p => decide (p.1 = x)) = decide (x ∈ sd.map (·.1)) := by
    induction sd with
    | nil => rfl
    | cons p sd ih =>
      rw [List.any_cons, ih, List.map_cons]
      by_cases h : p.1 = x
      · simp [h]
      · have h2 : ¬ x = p.1 := fun z => h z.symm
        simp [h, h2]
  unfold putS
  rw [hm]
  by_cases h : x ∈ sd.map (·.1)
  · rw [if_pos (by simpa using h), if_pos h, List.map_map]
    refine List.map_congr_left fun p _ => ?_
    show (if p.1 = x then (p.1, d) else p).1 = p.1
    split <;> rfl
  · rw [if_neg (by simpa using h), if_neg h, List.map_append]; rfl
theorem put_lk (sd : List (Str × Str)) (x d y : Str) : lk (putS sd x d) y = if x = y then some d else lk sd y := by
  have key : ∀ l : List (Str × Str), lk (l.map (fun p => if p.1 = x then (p.1, d) else p)) y = if x = y ∧ (l.any fun p => decide (p.1 = x)) = true then some d else lk l y := by
    intro l
    induction l with
    | nil => simp [lk]
    | cons p l ih =>
      show (if (if p.1 = x then (p.1, d) else p).1 = y then some (if p.1 = x then (p.1, d) else p).2 else lk (l.map _) y) = _
      rw [ih]
      show _ = if x = y ∧ _ then some d else (if p.1 = y then some p.2 else lk l y)
      rw [List.any_cons]
      by_cases h : p.1 = x
      · by_cases h2 : x = y
        · simp [h, h2]
        · simp [h, h2]
      · by_cases h2 : p.1 = y
        · have h3 : ¬ x = y := fun z => h (by rw [h2, z])
          have h4 : ¬ y = x := fun z => h3 z.symm
          simp [h, h2, h3, h4]
        · rw [if_neg h, if_neg h2, if_neg h2]
          rw [show decide (p.1 = x) = false from decide_eq_false h, Bool.false_or]
  have key2 : ∀ l : List (Str × Str), lk (l ++ [(x, d)]) y = match lk l y with
      | some z => some z
      | none => if x = y then some d else none := by
    intro l
    induction l with
    | nil => rfl
    | cons p l ih =>
      show (if p.1 = y then some p.2 else lk (l ++ [(x, d)]) y) = match (if p.1 = y then some p.2 else lk l y) with | some z => some z | none => _
      split
      · rfl
      · exact ih
  unfold putS
  split
  · next h =>
    rw [key]
    by_cases h2 : x = y
    · rw [if_pos ⟨h2, h⟩, if_pos h2]
    · rw [if_neg fun z => h2 z.1, if_neg h2]
  · next h =>
    rw [key2]
    by_cases h2 : x = y
    · rw [if_pos h2]
      have : lk sd y = none := by
        cases e : lk sd y with
        | none => rfl
        | some z => exact absurd (List.any_eq_true.mpr ⟨_, lk_mem e, by simp [h2]⟩) h
      rw [this]
      simp [h2]
    · rw [if_neg h2]
      cases lk sd y <;> simp [h2]
theorem put_nodup {sd : List (Str × Str)} (x d : Str) (h : (sd.map (·.1)).Nodup) : ((putS sd x d).map (·.1)).Nodup := by
  rw [put_keys]
  split
  · exact h
  · next n =>
    rw [List.nodup_append]
    exact ⟨h, by simp, fun a ha b hb => by simp at hb; subst hb; exact fun z => n (by rw [← z]; exact ha)⟩
theorem merge_st : ∀ (sd acc : List (Str × Str)), ((acc ++ sd).map (·.1)).Nodup → mergeD (stD acc) (stD sd) = stD (acc ++ sd)
  | [], acc, _ => by rw [List.append_nil]; rfl
  | p :: sd, acc, h => by
    show mergeD (dput (stD acc) p.1 (.str p.2)) (stD sd) = _
    have hn : p.1 ∉ acc.map (·.1) := fun z => by
      rw [List.map_append, List.nodup_append] at h
      exact h.2.2 _ z p.1 (by simp) rfl
    have e : putS acc p.1 p.2 = acc ++ [p] := by
      unfold putS
      rw [if_neg fun z => ?_]
      obtain ⟨q, hq, e⟩ := List.any_eq_true.mp z
      exact hn (List.mem_map.mpr ⟨q, hq, by simpa using e⟩)
    rw [dput_st, e, merge_st sd (acc ++ [p]) (by simpa using h)]
    simp
theorem tpD_st {sd : List (Str × Str)} (nd : (sd.map (·.1)).Nodup) : tpD (.tup (sd.map tp2)) = some (stD sd) := by
  show (pairsD (sd.map tp2)).map (mergeD []) = _
  rw [pairs_tp]
  show some (mergeD (stD []) (stD sd)) = _
  rw [merge_st sd [] (by simpa using nd)]
  rfl
theorem seats_of_eq {d : D} {sd : List (Str × Str)} (em : Str × Str → D) (nd : (sd.map (·.1)).Nodup) (hl : sd.length ≤ 100000) (hs : seqOf d = some (sd.map em)) (hi : isiD ["list", "tuple"] d = some (.bl true)) (h : ∀ p, seqOf (em p) = some [.str p.1, .str p.2]) (h2 : ∀ p, isiD ["list", "tuple"] (em p) = some (.bl true)) :
    GK_seats_of [d] = some (stD sd) := by
  have key : W (FK_seats_of [some (.val d)]) () fun ks _ => ks = stD sd := by
    unfold FK_seats_of
    simp [tupled_rows 5 em hs hi hl h h2, tpD_st nd]
  obtain ⟨ks, t, e, rfl⟩ := key
  show (if [d].length = 1 then _ else _) = _
  rw [if_pos (show [d].length = 1 from rfl)]
  show (FK_seats_of [some (.val d)] ()).map _ = _
  rw [e]
  rfl
end MM
/-! Q7 -/
namespace MM
open PySem Q
/-- what the book and the ready row say -/
structure Bk (book ready : D) (ns : List Str) (mf : Str → List Str) : Prop where
  may : G_may_table [book, ready] = some (.dct (tbD ns mf))
  tasks : G_tasks_of [ready] = some (sL ns)
def Shf (ns : List Str) (mf : Str → List Str) (f : Str → Option Str) (t : Str) (ps : List (Str × Str)) (c : Str) : Prop := t ∈ ns ∧ ¬ Run f t ∧ Pth mf f t ps c ∧ endB ns f t c = true
def Stl (ns : List Str) (mf : Str → List Str) (f : Str → Option Str) : Prop := ∀ t ∈ ns, ¬ Run f t → ∀ c, Rch mf f t c → endB ns f t c = false
section
variable {ns : List Str} {mf : Str → List Str} {cs : List Str} {sd : List (Str × Str)} {t : Str} {book ready seating : D}
theorem check_task_eq (B : Bk book ready ns mf) (ht : t ∈ ns) : G_check_task [ready, .str t] = some .non := by
  obtain ⟨d, e, q⟩ := G_of (n := 2) (m := 0) (F := F_check_task) (ds := [ready, .str t]) (Q := fun r => r = .non) rfl (by
    have h := B.tasks
    unfold sL at h
    unfold F_check_task
    simp [h, any_mem, ht])
  rw [show G_check_task [ready, .str t] = some d from e, q]
theorem wait_t (S : Sea ns mf sd) (r : ¬ Run (lk sd) t) : G_does_wait [.dct (stD sd), .str t] = some (.bl true) := by
  rw [does_wait_eq, any_mem, decide_eq_false fun z => r ((run_vals S.nd t).mp z)]
  rfl
theorem wait_f (S : Sea ns mf sd) (r : Run (lk sd) t) : G_does_wait [.dct (stD sd), .str t] = some (.bl false) := by
  rw [does_wait_eq, any_mem, decide_eq_true ((run_vals S.nd t).mpr r)]
  rfl
theorem best_way_ok (I : Ins ns mf cs) (S : Sea ns mf sd) (B : Bk book ready ns mf) (hs : GK_seats_of [seating] = some (stD sd)) (ht : t ∈ ns) : ∃ d, G_best_way [book, ready, seating, .str t, .bl true] = some d ∧
    ((d = .non ∧ (¬ Run (lk sd) t → ∀ c, Rch mf (lk sd) t c → endB ns (lk sd) t c = false)) ∨ ∃ ps c, d = wayD ps ∧ Shf ns mf (lk sd) t ps c) := by
  refine G_of (n := 5) (m := 4) (F := F_best_way) rfl ?_
  obtain ⟨L, eL, h1, h2⟩ := right_ends_ok I S ht
  obtain ⟨w, ew, hw⟩ := shortest_ok I S ht L
  have ht' := B.tasks
  unfold sL at ht' eL ew
  unfold F_best_way
  by_cases r : Run (lk sd) t
  · simp [check_task_eq B ht, B.may, ht', hs, wait_f S r, r]
  · simp [check_task_eq B ht, B.may, ht', hs, wait_t S r, r, eL, ew]
    rcases hw with ⟨rfl, h⟩ | ⟨ps, c, rfl, h3, h4⟩
    · refine .inl ⟨rfl, fun c hc => Bool.eq_false_iff.mpr fun z => ?_⟩
      obtain ⟨x, hx⟩ := h2 ⟨c, hc, z⟩
      exact h x (h1 x hx).1 hx
    · exact .inr ⟨ps, rfl, c, ht, r, h3, (h1 c h4).2⟩
theorem a_right_shift_ok (I : Ins ns mf cs) (S : Sea ns mf sd) (B : Bk book ready ns mf) (hs : GK_seats_of [seating] = some (stD sd)) (ht : t ∈ ns) : ∃ d, G_a_right_shift [book, ready, seating, .str t] = some d ∧
    ((d = .non ∧ (¬ Run (lk sd) t → ∀ c, Rch mf (lk sd) t c → endB ns (lk sd) t c = false)) ∨ ∃ ps c, d = wayD ps ∧ Shf ns mf (lk sd) t ps c) := by
  obtain ⟨d, e, q⟩ := best_way_ok I S B hs ht
  refine G_of (n := 4) (m := 0) (F := F_a_right_shift) rfl ?_
  unfold F_a_right_shift
  simp only [W_bnd, W_callP, sRet, cP, aC, aN, xV, cB, vV_get, W_lft, W_ret, List.map_cons, List.map_nil, List.cons_append, List.nil_append, List.replicate_zero, List.getElem?_cons_zero, List.getElem?_cons_succ]
  exact ⟨rfl, d, e, q⟩
theorem next_shift_ok (I : Ins ns mf cs) (S : Sea ns mf sd) (B : Bk book ready ns mf) (hs : GK_seats_of [seating] = some (stD sd)) : ∃ d, G_next_shift [book, ready, seating] = some d ∧
    ((d = .non ∧ Stl ns mf (lk sd)) ∨ ∃ t ps c, d = wayD ps ∧ Shf ns mf (lk sd) t ps c) := by
  refine G_of (n := 3) (m := 2) (F := F_next_shift) rfl ?_
  have ht' := B.tasks
  unfold sL at ht'
  unfold F_next_shift
  simp [ht']
  refine W_for (fun xs ρ _ => ∃ (rest : List Str) (x3 x4 : Option SV), xs = rest.map D.str ∧ ρ = [some (.val book), some (.val ready), some (.val seating), x3, x4] ∧ (∀ t ∈ rest, t ∈ ns) ∧ ∀ t ∈ ns, t ∈ rest ∨ (¬ Run (lk sd) t → ∀ c, Rch mf (lk sd) t c → endB ns (lk sd) t c = false))
    (R := fun d _ => ∃ t ps c, d = wayD ps ∧ Shf ns mf (lk sd) t ps c) ?_ ⟨ns, none, none, rfl, rfl, fun _ h => h, fun t h => .inl h⟩ ?_ ?_
  · rintro x xs ρ _ ⟨rest, x3, x4, e, rfl, h1, h2⟩
    cases rest with
    | nil => cases e
    | cons t rest =>
      cases e
      obtain ⟨d, e, q⟩ := a_right_shift_ok I S B hs (h1 t List.mem_cons_self)
      refine ⟨_, rfl, ?_⟩
      rcases q with ⟨rfl, q⟩ | ⟨ps, c, rfl, q⟩
      · simp [e, isNon]
        refine ⟨rest, rfl, fun x hx => h1 x (List.mem_cons_of_mem _ hx), fun x hx => ?_⟩
        rcases h2 x hx with z | z
        · rcases List.mem_cons.mp z with rfl | z
          · exact .inr q
          · exact .inl z
        · exact .inr z
      · unfold wayD at e
        simp [e, isNon]
        exact ⟨t, ps, rfl, c, q⟩
  · rintro ρ _ ⟨rest, x3, x4, e, rfl, h1, h2⟩
    simp
    cases rest with
    | cons _ _ => cases e
    | nil => exact fun t ht r c hc => ((h2 t ht).resolve_left fun z => nomatch z) r c hc
  · rintro d _ ⟨t, ps, c, e, q⟩
    simp
    exact .inr ⟨t, ps, e, c, q⟩
theorem is_settled_ok (I : Ins ns mf cs) (S : Sea ns mf sd) (B : Bk book ready ns mf) (hs : GK_seats_of [seating] = some (stD sd)) : ∃ b, G_is_settled [book, ready, seating] = some (.bl b) ∧ (b = true ↔ Stl ns mf (lk sd)) := by
  obtain ⟨d, e, q⟩ := next_shift_ok I S B hs
  have key := G_of (n := 3) (m := 0) (F := F_is_settled) (ds := [book, ready, seating]) (Q := fun r => ∃ b, r = .bl b ∧ (b = true ↔ Stl ns mf (lk sd))) rfl ?_
  · obtain ⟨r, e, b, rfl, h⟩ := key
    exact ⟨b, e, h⟩
  unfold F_is_settled
  simp [e]
  rcases q with ⟨rfl, q⟩ | ⟨t, ps, c, rfl, h1, h2, h3, h4⟩
  · exact .inr ⟨rfl, q⟩
  · refine .inl ⟨rfl, fun z => ?_⟩
    rw [z t h1 h2 c h3.rch] at h4
    cases h4
end
end MM
/-! Q8 -/
namespace MM
open PySem Q
def putAll (sd ps : List (Str × Str)) : List (Str × Str) := ps.foldl (fun s p => putS s p.2 p.1) sd
theorem putAll_lk : ∀ (ps sd : List (Str × Str)), lk (putAll sd ps) = mv (lk sd) ps
  | [], sd => rfl
  | p :: ps, sd => by
    show lk (putAll (putS sd p.2 p.1) ps) = mv (fun x => if p.2 = x then some p.1 else lk sd x) ps
    rw [putAll_lk ps]
    congr 1
    funext x
    exact put_lk _ _ _ _
theorem putAll_nodup : ∀ (ps : List (Str × Str)) {sd : List (Str × Str)}, (sd.map (·.1)).Nodup → ((putAll sd ps).map (·.1)).Nodup
  | [], _, h => h
  | p :: ps, sd, h => putAll_nodup ps (put_nodup _ _ h)
theorem put_len (sd : List (Str × Str)) (x d : Str) : (putS sd x d).length ≤ sd.length + 1 := by
  unfold putS
  split <;> simp
theorem putAll_len : ∀ (ps sd : List (Str × Str)), (putAll sd ps).length ≤ sd.length + ps.length
  | [], sd => by simp [putAll]
  | p :: ps, sd => by
    have := putAll_len ps (putS sd p.2 p.1)
    have := put_len sd p.2 p.1
    show (putAll (putS sd p.2 p.1) ps).length ≤ _
    simp only [List.length_cons]
    omega
def srtP (sd : List (Str × Str)) : List (Str × Str) := isort (fun a b => !ltR [b.1, b.2] [a.1, a.2]) sd
theorem srtP_perm (sd : List (Str × Str)) : (srtP sd).Perm sd := isort_perm _ sd
theorem sort_prs {sd : List (Str × Str)} (h : sd.length ≤ 100000) : sortD (sd.map pr2) = some ((srtP sd).map pr2) := by
  unfold sortD
  have e : (sd.map pr2).all isP = true := by simp [isP]
  rw [e]
  simp only [Bool.or_true, Bool.true_and, List.length_map, h, decide_true, if_true]
  unfold srtP
  rw [isort_map pr2 (fun a b => !ltR [b.1, b.2] [a.1, a.2]) leD fun a b => rfl]
theorem sort_tps {sd : List (Str × Str)} (h : sd.length ≤ 100000) : sortD (sd.map tp2) = some ((srtP sd).map tp2) := by
  unfold sortD
  have e : (sd.map tp2).all isT = true := List.all_eq_true.mpr fun d hd => by
    obtain ⟨p, _, rfl⟩ := List.mem_map.mp hd
    rfl
  rw [e]
  simp only [Bool.or_true, Bool.true_or, Bool.true_and, List.length_map, h, decide_true, if_true]
  unfold srtP
  rw [isort_map tp2 (fun a b => !ltR [b.1, b.2] [a.1, a.2]) leD fun a b => rfl]
theorem lk_perm {sd sd' : List (Str × Str)} (h : sd'.Perm sd) (nd : (sd.map (·.1)).Nodup) : lk sd' = lk sd := by
  have nd' : (sd'.map (·.1)).Nodup := (h.map _).nodup_iff.mpr nd
  funext x
  cases e : lk sd x with
  | some m => exact mem_lk nd' (h.mem_iff.mpr (lk_mem e))
  | none =>
    cases e2 : lk sd' x with
    | none => rfl
    | some m => rw [mem_lk nd (h.mem_iff.mp (lk_mem e2))] at e; cases e
theorem itms_st (sd : List (Str × Str)) : itmsD (stD sd) = sd.map pr2 := by
  unfold itmsD stD
  rw [List.map_map]
  rfl
theorem zip_ps (ps : List (Str × Str)) : zipL ((ps.map (·.1)).map D.str) ((ps.map (·.2)).map D.str) = ps.map pr2 := by
  induction ps with
  | nil => rfl
  | cons p ps ih =>
    show .pr (.str p.1) (.str p.2) :: zipL _ _ = _
    rw [ih]
    rfl
section
variable {ns : List Str} {mf : Str → List Str} {cs : List Str} {sd : List (Str × Str)} {t : Str} {book ready seating : D}
theorem Sea.len (I : Ins ns mf cs) (S : Sea ns mf sd) : sd.length ≤ 4 := by
  have := sub_len S.nd (cs := cs) fun x hx => by
    obtain ⟨p, hp, rfl⟩ := List.mem_map.mp hx
    have e := mem_lk S.nd hp
    exact I.sub _ (S.va.mem _ _ e) _ (S.va.ok _ _ e)
  rw [List.length_map] at this
  exact Nat.le_trans this I.cfew
theorem Shf.sea {ps : List (Str × Str)} {c : Str} (S : Sea ns mf sd) (h : Shf ns mf (lk sd) t ps c) : Sea ns mf (srtP (putAll sd ps)) := by
  have nd := putAll_nodup ps S.nd
  have e := lk_perm (srtP_perm (putAll sd ps)) nd
  refine ⟨((srtP_perm _).map _).nodup_iff.mpr nd, ?_⟩
  rw [e, putAll_lk]
  exact h.2.2.1.va S.va h.2.1 h.1
theorem Shf.lk {ps : List (Str × Str)} (S : Sea ns mf sd) : MM.lk (srtP (putAll sd ps)) = mv (MM.lk sd) ps := by
  rw [lk_perm (srtP_perm (putAll sd ps)) (putAll_nodup ps S.nd), putAll_lk]
theorem shifted_eq (S : Sea ns mf sd) (hs : GK_seats_of [seating] = some (stD sd)) {ps : List (Str × Str)} (hne : ps ≠ []) (hl : sd.length + ps.length ≤ 1000) : G_shifted [seating, wayD ps] = some (.tup ((srtP (putAll sd ps)).map pr2)) := by
  obtain ⟨d, e, q⟩ := G_of (n := 2) (m := 3) (F := F_shifted) (ds := [seating, wayD ps]) (Q := fun d => d = .tup ((srtP (putAll sd ps)).map pr2)) rfl (by
    have hpl : ps.length ≤ 1000 := by omega
    unfold F_shifted
    simp [hs, step_movers, step_places ps hne]
    rw [sml_of (by simp; omega)]
    simp
    rw [sml_of (by simp; omega)]
    simp
    have hz : zipD [.tup (ps.map fun p => D.str p.1), .tup (ps.map fun p => D.str p.2)] = some (ps.map pr2) := by
      have := zip_ps ps
      rw [List.map_map, List.map_map] at this
      show some (zipL (ps.map fun p => D.str p.1) (ps.map fun p => D.str p.2)) = _
      exact congrArg some this
    refine W_lft' hz ?_
    refine W_for (fun xs ρ _ => ∃ (done rest : List (Str × Str)) (x3 x4 : Option SV), ps = done ++ rest ∧ xs = rest.map pr2 ∧ ρ = [some (.val seating), some (.val (wayD ps)), some (.od (stD (putAll sd done))), x3, x4]) (R := fun _ _ => False) ?_ ⟨[], ps, none, none, rfl, rfl, rfl⟩ ?_ ?_
    · rintro x xs ρ _ ⟨done, rest, x3, x4, e1, e2, rfl⟩
      cases rest with
      | nil => cases e2
      | cons p rest =>
        cases e2
        have hln := putAll_len done sd
        have hdl : (stD (putAll sd done)).length ≤ 100000 := by
          unfold stD
          rw [e1] at hl
          simp at hl ⊢
          omega
        refine ⟨_, rfl, ?_⟩
        simp [putE, hdl, dput_st]
        refine ⟨done ++ [p], rest, by rw [e1]; simp, rfl, ?_⟩
        unfold putAll
        rw [List.foldl_append]
        rfl
    · rintro ρ' _ ⟨done, rest, x3, x4, e1, e2, rfl⟩
      cases rest with
      | cons _ _ => cases e2
      | nil =>
        rw [List.append_nil] at e1
        subst e1
        have hln := putAll_len ps sd
        simp [itms_st]
        exact W_lft' (sort_prs (by omega)) rfl
    · exact fun _ _ z => False.elim z)
  rw [show G_shifted [seating, wayD ps] = some d from e, q]
theorem way_at {ps : List (Str × Str)} {i : Nat} {p : Str × Str} (h : ps[i]? = some p) : idxL (wayD ps) (.int (0 + (i : Int) * 2)) = some (.str p.1) ∧ idxL (wayD ps) (.int (0 + (i : Int) * 2 + 1)) = some (.str p.2) := by
  obtain ⟨h1, h2⟩ := wstr_get ps i
  rw [List.getElem?_map, h] at h1 h2
  constructor
  · show L2.atI ((wstr ps).map D.str) (0 + (i : Int) * 2) = _
    rw [show (0 : Int) + (i : Int) * 2 = ((2 * i : Nat) : Int) by omega]
    exact L2.atI_nat (by rw [List.getElem?_map, h1]; rfl)
  · show L2.atI ((wstr ps).map D.str) (0 + (i : Int) * 2 + 1) = _
    rw [show (0 : Int) + (i : Int) * 2 + 1 = ((2 * i + 1 : Nat) : Int) by omega]
    exact L2.atI_nat (by rw [List.getElem?_map, h2]; rfl)
theorem law_moved_eq (nd : (sd.map (·.1)).Nodup) {ps : List (Str × Str)} (hl : sd.length + ps.length ≤ 400) : G__law_moved [.tup (sd.map tp2), wayD ps] = some (.tup ((srtP (putAll sd ps)).map tp2)) := by
  obtain ⟨d, e, q⟩ := G_of (n := 2) (m := 3) (F := F__law_moved) (ds := [.tup (sd.map tp2), wayD ps]) (Q := fun d => d = .tup ((srtP (putAll sd ps)).map tp2)) rfl (by
    have hw := wstr_len ps
    have hc : (0 : Int) ≤ ((wstr ps).length : Int) ∧ ((wstr ps).length : Int) ≤ 1000 := by omega
    have hn : (((wstr ps).length : Int).toNat + 1) / 2 = ps.length := by omega
    have htp := tpD_st nd
    unfold tp2 at htp
    unfold F__law_moved
    simp [htp]
    rw [if_pos hc.2, show ((wstr ps).length + 1) / 2 = ps.length by omega]
    simp
    refine W_for (fun xs ρ _ => ∃ (i : Nat) (x3 x4 : Option SV), i ≤ ps.length ∧ xs = ((List.range ps.length).drop i).map (fun (j : Nat) => D.int (0 + (j : Int) * 2)) ∧ ρ = [some (.val (.tup (sd.map tp2))), some (.val (wayD ps)), some (.od (stD (putAll sd (ps.take i)))), x3, x4]) (R := fun _ _ => False) ?_ ⟨0, none, none, Nat.zero_le _, rfl, rfl⟩ ?_ ?_
    · rintro x xs ρ _ ⟨i, x3, x4, hi, e2, rfl⟩
      rcases Nat.lt_or_ge i ps.length with lt | ge
      · have ed : (List.range ps.length).drop i = i :: (List.range ps.length).drop (i + 1) := by
          rw [List.drop_eq_getElem_cons (by simpa using lt)]
          simp
        rw [ed] at e2
        cases e2
        obtain ⟨w1, w2⟩ := way_at (List.getElem?_eq_getElem lt)
        have hln := putAll_len (ps.take i) sd
        have hdl : (stD (putAll sd (ps.take i))).length ≤ 100000 := by
          unfold stD
          rw [List.length_take] at hln
          simp at hln ⊢
          omega
        unfold wayD at w1 w2
        refine ⟨_, rfl, ?_⟩
        simp at w1 w2
        simp [putE, hdl, dput_st, w1, w2]
        refine ⟨i + 1, lt, rfl, ?_⟩
        unfold putAll
        rw [List.take_succ_eq_append_getElem lt, List.foldl_append]
        rfl
      · rw [List.drop_eq_nil_of_le (by simpa using ge)] at e2
        cases e2
    · rintro ρ' _ ⟨i, x3, x4, hi, e2, rfl⟩
      rcases Nat.lt_or_ge i ps.length with lt | ge
      · have e3 := congrArg List.length e2
        simp at e3
        omega
      · rw [List.take_of_length_le ge]
        have hln := putAll_len ps sd
        have hk : keysD (stD (putAll sd ps)) = (putAll sd ps).map tp2 := by
          unfold keysD stD
          rw [List.map_map]
          refine List.map_congr_left fun p hp => ?_
          have e := dget_st (putAll sd ps) p.1
          rw [mem_lk (putAll_nodup ps nd) hp] at e
          unfold stD at e
          show D.tup [.str p.1, (dget _ p.1).getD .non] = _
          rw [e]
          rfl
        have hl2 : (stD (putAll sd ps)).length ≤ 1000 := by
          unfold stD
          simp
          omega
        simp [lkF, hl2, hk]
        exact W_lft' (sort_tps (by omega)) rfl
    · exact fun _ _ z => False.elim z)
  rw [show G__law_moved [.tup (sd.map tp2), wayD ps] = some d from e, q]
end
end MM
/-! Q9 -/
namespace MM
open PySem Q
/-! ### what a shift's row must meet -/
def Cn (f : Str → Option Str) : Str → List (Str × Str) → Prop
  | _, [] => True
  | c, q :: r => f c = some q.1 ∧ Cn f q.2 r
def lastC : Str → List (Str × Str) → Str
  | c, [] => c
  | _, q :: r => lastC q.2 r
theorem cn_snoc {f : Str → Option Str} {m d : Str} : ∀ {r : List (Str × Str)} {c : Str}, Cn f c r → f (lastC c r) = some m → Cn f c (r ++ [(m, d)])
  | [], _, _, h => ⟨h, trivial⟩
  | _ :: _, _, h, h2 => ⟨h.1, cn_snoc h.2 h2⟩
theorem last_snoc {m d : Str} : ∀ {r : List (Str × Str)} {c : Str}, lastC c (r ++ [(m, d)]) = d
  | [], _ => rfl
  | _ :: r, _ => last_snoc (r := r)
structure Cnd (ns : List Str) (mf : Str → List Str) (f : Str → Option Str) (t c0 : Str) (r : List (Str × Str)) : Prop where
  mem : ∀ m ∈ t :: r.map (·.1), m ∈ ns
  mv : (t :: r.map (·.1)).Nodup
  pl : (c0 :: r.map (·.2)).Nodup
  w : ¬ Run f t
  ok : ∀ p ∈ (t, c0) :: r, p.2 ∈ mf p.1
  ch : Cn f c0 r
  en : endB ns f t (lastC c0 r) = true
section
variable {ns : List Str} {mf : Str → List Str} {cs : List Str} {sd : List (Str × Str)} {t : Str} {book ready seating : D}
theorem Q.Pth.cons {f : Str → Option Str} {ps : List (Str × Str)} {c : Str} (h : Pth mf f t ps c) : ∃ c0 r, ps = (t, c0) :: r ∧ c = lastC c0 r ∧ Cn f c0 r ∧ ∀ p ∈ ps, p.2 ∈ mf p.1 := by
  induction h with
  | @one c h => exact ⟨c, [], rfl, rfl, trivial, fun p hp => by rw [List.mem_singleton.mp hp]; exact h⟩
  | @ext ps c m d h0 e h n ih =>
    obtain ⟨c0, r, rfl, rfl, h1, h2⟩ := ih
    refine ⟨c0, r ++ [(m, d)], rfl, last_snoc.symm, cn_snoc h1 e, fun p hp => ?_⟩
    rcases List.mem_append.mp hp with hp | hp
    · exact h2 p hp
    · rw [List.mem_singleton.mp hp]; exact h
theorem pth_app {f : Str → Option Str} : ∀ (r : List (Str × Str)) {qs : List (Str × Str)} {c : Str}, Pth mf f t qs c → Cn f c r → (∀ p ∈ r, p.2 ∈ mf p.1) → (qs.map (·.2) ++ r.map (·.2)).Nodup → Pth mf f t (qs ++ r) (lastC c r)
  | [], qs, c, h, _, _, _ => by rw [List.append_nil]; exact h
  | q :: r, qs, c, h, h1, h2, nd => by
    have e : qs ++ q :: r = (qs ++ [q]) ++ r := by simp
    rw [e]
    refine pth_app r (.ext h h1.1 (h2 q List.mem_cons_self) fun z => ?_) h1.2 (fun p hp => h2 p (List.mem_cons_of_mem _ hp)) (by simpa using nd)
    rw [List.nodup_append] at nd
    exact nd.2.2 _ z q.2 (by simp) rfl
theorem cnd_iff {f : Str → Option Str} {c0 : Str} {r : List (Str × Str)} (v : Va ns mf f) : Cnd ns mf f t c0 r ↔ ∃ t' c, Shf ns mf f t' ((t, c0) :: r) c := by
  constructor
  · intro h
    have p0 : Pth mf f t [(t, c0)] c0 := .one (h.ok _ List.mem_cons_self)
    exact ⟨t, _, h.mem t List.mem_cons_self, h.w, pth_app r p0 h.ch (fun p hp => h.ok p (List.mem_cons_of_mem _ hp)) h.pl, h.en⟩
  · rintro ⟨t', c, h1, h2, h3, h4⟩
    obtain ⟨c0', r', e, rfl, hc, hok⟩ := h3.cons
    cases e
    refine ⟨fun m hm => ?_, h3.movers v.inj h2, h3.nodup, h2, hok, hc, h4⟩
    rcases h3.mover m (by simpa using hm) with rfl | ⟨d, _, _, e⟩
    · exact h1
    · exact v.mem _ _ e
/-! ### sizes of sets -/
theorem dedup_le : ∀ xs : List Str, (dedupS xs).length ≤ xs.length
  | [] => Nat.le_refl _
  | x :: xs => by
    have := dedup_le xs
    unfold dedupS
    split
    · simp only [List.length_cons]; omega
    · simp only [List.length_cons]; omega
theorem dedup_nd : ∀ xs : List Str, (dedupS xs).length = xs.length ↔ xs.Nodup
  | [] => by simp [dedupS]
  | x :: xs => by
    have ih := dedup_nd xs
    have := dedup_le xs
    unfold dedupS
    rw [any_mem, List.nodup_cons]
    by_cases h : x ∈ xs
    · simp [h]
      omega
    · simp [h, ih]
theorem lenSet_eq {xs : List Str} (h : xs.length ≤ 1000) : lenSet (.tup (xs.map .str)) = some (.int ((dedupS xs).length : Nat)) := by
  unfold lenSet
  simp [h]
@[simp] theorem eqD_int (b : Bool) (i j : Int) : eqD b (.int i) (.int j) = some (.bl (if b then !(i == j) else i == j)) := rfl
/-! ### data that may be compared -/
def Pd (k : Nat) (d : D) : Prop := ∃ a, toPy d = some a ∧ a.canLay0 = true ∧ a.depth ≤ k
theorem pd_str {s : Str} {k : Nat} (h : PyData.strOk s = true) : Pd k (.str s) := ⟨.str s, rfl, by unfold PyData.canLay0; exact h, by unfold PyData.depth; exact Nat.zero_le _⟩
theorem pd_all {k : Nat} : ∀ {ds : List D}, (∀ d ∈ ds, Pd k d) → ∃ as, toPys ds = some as ∧ PyData.canLayAll0 as = true ∧ PyData.depthAll as ≤ k
  | [], _ => ⟨[], rfl, rfl, Nat.zero_le _⟩
  | d :: ds, h => by
    obtain ⟨a, a1, a2, a3⟩ := h d List.mem_cons_self
    obtain ⟨as, b1, b2, b3⟩ := pd_all fun x hx => h x (List.mem_cons_of_mem _ hx)
    refine ⟨a :: as, by unfold toPys; rw [a1, b1], ?_, ?_⟩
    · unfold PyData.canLayAll0; rw [a2, b2]; rfl
    · unfold PyData.depthAll; omega
theorem pd_lst {k : Nat} {ds : List D} (h : ∀ d ∈ ds, Pd k d) : Pd (k + 1) (.lst ds) := by
  obtain ⟨as, a, b, c⟩ := pd_all h
  exact ⟨.list as, by unfold toPy; rw [a]; rfl, by unfold PyData.canLay0; exact b, by unfold PyData.depth; omega⟩
theorem pd_tup {k : Nat} {ds : List D} (h : ∀ d ∈ ds, Pd k d) : Pd (k + 1) (.tup ds) := by
  obtain ⟨as, a, b, c⟩ := pd_all h
  exact ⟨.tuple as, by unfold toPy; rw [a]; rfl, by unfold PyData.canLay0; exact b, by unfold PyData.depth; omega⟩
theorem shaped_of {a : PyData} {k : Nat} (h1 : a.canLay0 = true) (h2 : a.depth ≤ k) (hk : k ≤ 64 := by decide) : SeqAt.shaped a = true := by
  unfold SeqAt.shaped
  rw [h1]
  simp
  omega
theorem eqD_str {i j : Str} (b : Bool) (hi : PyData.strOk i = true) (hj : PyData.strOk j = true) : eqD b (.str i) (.str j) = some (.bl (if b then !(i == j) else i == j)) := by
  have h1 : SeqAt.shaped (.str i) = true := shaped_of (k := 0) (by unfold PyData.canLay0; exact hi) (by unfold PyData.depth; exact Nat.le_refl _)
  have h2 : SeqAt.shaped (.str j) = true := shaped_of (k := 0) (by unfold PyData.canLay0; exact hj) (by unfold PyData.depth; exact Nat.le_refl _)
  unfold eqD eqB
  simp [toPy, h1, h2, PyData.eqv]
theorem eqD_nonstr {j : Str} (b : Bool) (hj : PyData.strOk j = true) : eqD b .non (.str j) = some (.bl b) := by
  have h2 : SeqAt.shaped (.str j) = true := shaped_of (k := 0) (by unfold PyData.canLay0; exact hj) (by unfold PyData.depth; exact Nat.le_refl _)
  have h1 : SeqAt.shaped .none = true := rfl
  unfold eqD eqB
  simp [toPy, h1, h2, PyData.eqv]
/-- xs == [] -/
theorem eqD_nil {ds : List D} {k : Nat} (b : Bool) (h : ∀ d ∈ ds, Pd k d) (hk : k + 1 ≤ 64) : eqD b (.lst ds) (.lst []) = some (.bl (if b then !ds.isEmpty else ds.isEmpty)) := by
  obtain ⟨as, a, e1, e2⟩ := pd_all h
  have h1 : SeqAt.shaped (.list as) = true := shaped_of (k := k + 1) (by unfold PyData.canLay0; exact e1) (by unfold PyData.depth; omega) hk
  have h2 : SeqAt.shaped (.list []) = true := rfl
  have e : PyData.eqv (.list as) (.list []) = ds.isEmpty := by
    cases ds with
    | nil => cases a; rfl
    | cons d ds =>
      unfold toPys at a
      split at a
      · cases a; rfl
      · cases a
  unfold eqD eqB
  unfold toPy
  rw [a]
  simp [h1, h2, e, toPys]
theorem getK_st (z : D) (c : Str) : getK z (.dct (stD sd)) (.str c) = some (((lk sd c).map D.str).getD z) := by
  show some ((dget (stD sd) c).getD z) = _
  rw [dget_st]
@[simp] theorem allD_bl (bs : List Bool) : allD (.lst (bs.map .bl)) = some (.bl (bs.all id)) := by simp [allD]
def zp : Str → List (Str × Str) → List (Str × Str)
  | _, [] => []
  | c, q :: r => (q.1, c) :: zp q.2 r
theorem zip_tail (c0 : Str) : ∀ r : List (Str × Str), ∀ c0, zipL ((r.map (·.1)).map D.str) (((c0 :: r.map (·.2))).map D.str) = (zp c0 r).map pr2
  | [], _ => rfl
  | q :: r, c0 => by
    show .pr (.str q.1) (.str c0) :: zipL ((r.map (·.1)).map D.str) ((q.2 :: r.map (·.2)).map D.str) = _
    rw [zip_tail c0 r q.2]
    rfl
theorem zp_cn {f : Str → Option Str} : ∀ (r : List (Str × Str)) (c : Str), (∀ p ∈ zp c r, f p.2 = some p.1) ↔ Cn f c r
  | [], _ => by simp [zp, Cn]
  | q :: r, c => by
    have ih := zp_cn (f := f) r q.2
    unfold zp Cn
    rw [← ih]
    simp
theorem boolOf (p : Prop) : ∃ b : Bool, (b = true ↔ p) := by
  by_cases h : p
  · exact ⟨true, fun _ => h, fun _ => rfl⟩
  · exact ⟨false, (fun z => nomatch z), fun z => absurd z h⟩
/-- the row of the program, when its movers are known -/
theorem is_row_of_ok (I : Ins ns mf cs) (S : Sea ns mf sd) {c0 : Str} {r : List (Str × Str)} (hps : ∀ p ∈ (t, c0) :: r, p.1 ∈ ns ∧ p.2 ∈ cs) (hl : r.length ≤ 100) : ∃ b, G_is_row_of [.dct (tbD ns mf), .dct (stD sd), wayD ((t, c0) :: r)] = some (.bl b) ∧
    (b = true ↔ (t :: r.map (·.1)).Nodup ∧ (c0 :: r.map (·.2)).Nodup ∧ ¬ Run (lk sd) t ∧ (∀ p ∈ (t, c0) :: r, p.2 ∈ mf p.1) ∧ Cn (lk sd) c0 r) := by
  obtain ⟨b, hb⟩ := boolOf ((t :: r.map (·.1)).Nodup ∧ (c0 :: r.map (·.2)).Nodup ∧ ¬ Run (lk sd) t ∧ (∀ p ∈ (t, c0) :: r, p.2 ∈ mf p.1) ∧ Cn (lk sd) c0 r)
  refine ⟨b, ?_, hb⟩
  obtain ⟨d, e, q⟩ := G_of (n := 3) (m := 4) (F := F_is_row_of) (ds := [.dct (tbD ns mf), .dct (stD sd), wayD ((t, c0) :: r)]) (Q := fun d => d = .bl b) rfl (by
    have s1 := step_movers ((t, c0) :: r)
    have s2 := step_places ((t, c0) :: r) (by simp)
    have l1 := lenSet_eq (xs := t :: r.map (·.1)) (by simp; omega)
    have l2 := lenSet_eq (xs := c0 :: r.map (·.2)) (by simp; omega)
    have d1 := dedup_nd (t :: r.map (·.1))
    have d2 := dedup_nd (c0 :: r.map (·.2))
    rw [show (t :: r.map (·.1)).length = r.length + 1 by simp] at d1
    rw [show (c0 :: r.map (·.2)).length = r.length + 1 by simp] at d2
    unfold F_is_row_of
    simp at s1 s2 l1 l2
    simp [s1, s2]
    rw [sml_of (by simp; omega)]
    simp
    rw [sml_of (by simp; omega)]
    simp [l1, l2]
    by_cases h1 : (dedupS (t :: r.map (·.1))).length = r.length + 1
    case neg =>
      have hf : b = false := by
        cases b with
        | false => rfl
        | true => exact absurd (d1.mpr (hb.mp rfl).1) h1
      have h1' : ¬ ((dedupS (t :: r.map (·.1))).length : Int) = (r.length : Int) + 1 := by omega
      simp [h1', hf]
    have h1' : ((dedupS (t :: r.map (·.1))).length : Int) = (r.length : Int) + 1 := by omega
    by_cases h2 : (dedupS (c0 :: r.map (·.2))).length = r.length + 1
    case neg =>
      have hf : b = false := by
        cases b with
        | false => rfl
        | true => exact absurd (d2.mpr (hb.mp rfl).2.1) h2
      have h2' : ¬ ((dedupS (c0 :: r.map (·.2))).length : Int) = (r.length : Int) + 1 := by omega
      simp [h1', h2', hf]
    have h2' : ((dedupS (c0 :: r.map (·.2))).length : Int) = (r.length : Int) + 1 := by omega
    by_cases h3 : Run (lk sd) t
    case pos =>
      have hf : b = false := by
        cases b with
        | false => rfl
        | true => exact absurd h3 (hb.mp rfl).2.2.1
      simp [h1', h2', wait_f S h3, hf]
    simp [h1', h2', wait_t S h3]
    have hz1 : zipD [.tup (.str t :: r.map (D.str ∘ fun x => x.1)), .tup (.str c0 :: r.map (D.str ∘ fun x => x.2))] = some (((t, c0) :: r).map pr2) := by
      have := zip_ps ((t, c0) :: r)
      rw [List.map_map, List.map_map] at this
      exact congrArg some this
    have hz2 : zipD [.tup (r.map (D.str ∘ fun x => x.1)), .tup (.str c0 :: r.map (D.str ∘ fun x => x.2))] = some ((zp c0 r).map pr2) := by
      have := zip_tail c0 r c0
      rw [List.map_cons, List.map_map, List.map_map] at this
      exact congrArg some this
    have hzl : (zp c0 r).length ≤ 100 := by
      have : ∀ (r : List (Str × Str)) c, (zp c r).length = r.length := by
        intro r
        induction r with
        | nil => intro c; rfl
        | cons q r ih => intro c; show (zp q.2 r).length + 1 = r.length + 1; rw [ih]
      rw [this]; exact hl
    refine W_lft' hz1 ?_
    rw [sml_of (by simp; omega), W_lft]
    refine W_comp pr2 (fun _ => true) (fun p => D.bl (decide (p.2 ∈ mf p.1))) ((t, c0) :: r) (fun p hp => ⟨_, rfl, ?_, fun _ => ?_⟩) ?_
    · simp
    · simp [dget_tb (hps p hp).1, any_mem]
    rw [List.filter_eq_self.mpr fun _ _ => rfl]
    have ea : allD (.lst (((t, c0) :: r).map fun p => D.bl (decide (p.2 ∈ mf p.1)))) = some (.bl (((t, c0) :: r).all fun p => decide (p.2 ∈ mf p.1))) := by
      have := allD_bl (((t, c0) :: r).map fun p => decide (p.2 ∈ mf p.1))
      rw [List.map_map, List.all_map] at this
      exact this
    refine W_lft' ea ?_
    rw [asB_bl, W_lft]
    by_cases h4 : ∀ p ∈ (t, c0) :: r, p.2 ∈ mf p.1
    case neg =>
      have hf : b = false := by
        cases b with
        | false => rfl
        | true => exact absurd (hb.mp rfl).2.2.2.1 h4
      rw [if_neg fun z => h4 fun p hp => by simpa using List.all_eq_true.mp z p hp]
      exact hf
    rw [if_pos (List.all_eq_true.mpr fun p hp => decide_eq_true (h4 p hp))]
    refine W_lft' hz2 ?_
    rw [sml_of (by simp; omega), W_lft]
    refine W_comp pr2 (fun _ => true) (fun p => D.bl (decide (lk sd p.2 = some p.1))) (zp c0 r) (fun p hp => ⟨_, rfl, ?_, fun _ => ?_⟩) ?_
    · simp
    · have hm : p.1 ∈ ns := by
        have : ∀ (r : List (Str × Str)) c, p ∈ zp c r → ∃ q ∈ r, q.1 = p.1 := by
          intro r
          induction r with
          | nil => intro c h; cases h
          | cons q r ih =>
            intro c h
            rcases List.mem_cons.mp h with rfl | h
            · exact ⟨q, List.mem_cons_self, rfl⟩
            · obtain ⟨x, hx, e⟩ := ih q.2 h
              exact ⟨x, List.mem_cons_of_mem _ hx, e⟩
        obtain ⟨q, hq, e⟩ := this r c0 hp
        rw [← e]
        exact (hps q (List.mem_cons_of_mem _ hq)).1
      have h0 : PyData.strOk "" = true := by decide +kernel
      have hk := getK_st (sd := sd) (.str "") p.2
      cases e : lk sd p.2 with
      | none =>
        rw [e] at hk
        have hne : ("" == p.1) = false := by
          rw [beq_eq_false_iff_ne]
          exact fun z => I.nz _ hm z.symm
        simp at hk
        simp [hk, eqD_str false h0 (I.sok _ (.inl hm)), hne]
      | some k =>
        rw [e] at hk
        have hkn := S.va.mem _ _ e
        simp at hk
        simp [hk, eqD_str false (I.sok _ (.inl hkn)) (I.sok _ (.inl hm)), e]
        by_cases z : k = p.1 <;> simp [z]
    rw [List.filter_eq_self.mpr fun _ _ => rfl]
    have ea : allD (.lst ((zp c0 r).map fun p => D.bl (decide (lk sd p.2 = some p.1)))) = some (.bl ((zp c0 r).all fun p => decide (lk sd p.2 = some p.1))) := by
      have := allD_bl ((zp c0 r).map fun p => decide (lk sd p.2 = some p.1))
      rw [List.map_map, List.all_map] at this
      exact this
    refine W_lft' ea ?_
    congr 1
    have hz := zp_cn (f := lk sd) r c0
    cases q : (zp c0 r).all fun p => decide (lk sd p.2 = some p.1) with
    | true =>
      symm
      exact hb.mpr ⟨d1.mp h1, d2.mp h2, h3, h4, hz.mp fun p hp => by simpa using List.all_eq_true.mp q p hp⟩
    | false =>
      cases b with
      | false => rfl
      | true =>
        have := hz.mpr (hb.mp rfl).2.2.2.2
        rw [List.all_eq_true.mpr fun p hp => decide_eq_true (this p hp)] at q
        cases q)
  rw [show G_is_row_of [.dct (tbD ns mf), .dct (stD sd), wayD ((t, c0) :: r)] = some d from e, q]
@[simp] theorem sml_0 : sml [] = some [] := rfl
@[simp] theorem sml_1 (a : D) : sml [a] = some [a] := rfl
@[simp] theorem sml_2 (a b : D) : sml [a, b] = some [a, b] := rfl
@[simp] theorem sml_3 (a b c : D) : sml [a, b, c] = some [a, b, c] := rfl
@[simp] theorem isi_tup (xs : List D) : isiD ["tuple"] (.tup xs) = some (.bl true) := rfl
theorem wstr_mem {ps : List (Str × Str)} {x : Str} (h : x ∈ wstr ps) : ∃ p ∈ ps, x = p.1 ∨ x = p.2 := by
  unfold wstr at h
  obtain ⟨p, hp, h⟩ := List.mem_flatMap.mp h
  exact ⟨p, hp, by simpa using h⟩
theorem way_last2 (t c0 : Str) : ∀ r : List (Str × Str), idxL (wayD ((t, c0) :: r)) (.int (-1)) = some (.str (lastC c0 r)) := by
  intro r
  rcases List.eq_nil_or_concat r with rfl | ⟨l, q, e⟩
  · exact way_last [] t c0
  · rw [List.concat_eq_append] at e
    subst e
    have := way_last ((t, c0) :: l) q.1 q.2
    rw [last_snoc]
    exact this
theorem is_shift_ok (I : Ins ns mf cs) (S : Sea ns mf sd) (B : Bk book ready ns mf) (hs : GK_seats_of [seating] = some (stD sd)) {c0 : Str} {r : List (Str × Str)} (hps : ∀ p ∈ (t, c0) :: r, p.1 ∈ ns ∧ p.2 ∈ cs) (hl : r.length ≤ 100) :
    ∃ b, G_is_shift [book, ready, seating, wayD ((t, c0) :: r)] = some (.bl b) ∧ (b = true ↔ Cnd ns mf (lk sd) t c0 r) := by
  obtain ⟨b, hb⟩ := boolOf (Cnd ns mf (lk sd) t c0 r)
  refine ⟨b, ?_, hb⟩
  obtain ⟨d, e, q⟩ := G_of (n := 4) (m := 5) (F := F_is_shift) (ds := [book, ready, seating, wayD ((t, c0) :: r)]) (Q := fun d => d = .bl b) rfl (by
    have s1 := step_movers ((t, c0) :: r)
    have hw := wstr_len ((t, c0) :: r)
    rw [List.length_cons] at hw
    have ht := B.tasks
    have hwl := way_last2 t c0 r
    unfold sL at ht
    unfold wayD at hwl
    have hlen : ¬ ((wstr ((t, c0) :: r)).length : Int) = 0 := by omega
    have hmod : modI ((wstr ((t, c0) :: r)).length : Int) 2 = some 0 := by
      unfold modI
      rw [if_pos (by decide)]
      congr 1
      omega
    obtain ⟨b1, e1, h1⟩ := is_row_of_ok I S hps hl
    unfold wayD at e1
    have ewc : wstr ((t, c0) :: r) = t :: c0 :: wstr r := rfl
    unfold F_is_shift
    simp at s1
    simp [hmod]
    rw [if_neg (by simpa using hlen)]
    rw [sml_of (by simp; omega), W_lft]
    refine W_comp D.str (fun _ => true) (fun _ => D.bl true) (wstr ((t, c0) :: r)) (fun x hx => ⟨_, rfl, ?_, fun _ => ?_⟩) ?_
    · simp
    · obtain ⟨p, hp, hx⟩ := wstr_mem hx
      have hn : G_is_name [.str x] = some (.bl true) := by
        rcases hx with rfl | rfl
        · exact I.nam _ (.inl (hps p hp).1)
        · exact I.nam _ (.inr (hps p hp).2)
      simp [hn]
    rw [List.filter_eq_self.mpr fun _ _ => rfl]
    have ea : allD (.lst ((wstr ((t, c0) :: r)).map fun _ => D.bl true)) = some (.bl true) := by
      have := allD_bl ((wstr ((t, c0) :: r)).map fun _ => true)
      rw [List.map_map, List.all_map] at this
      refine this.trans ?_
      congr 2
      exact List.all_eq_true.mpr fun _ _ => rfl
    refine W_lft' ea ?_
    simp [B.may, hs, ht, s1]
    have hsm : sml (.str t :: r.map (D.str ∘ fun x => x.1)) = some (.str t :: r.map (D.str ∘ fun x => x.1)) := sml_of (by simp; omega)
    rw [hsm, W_lft, hsm, W_lft]
    have em : (.str t :: r.map (D.str ∘ fun x => x.1)) = (t :: r.map (·.1)).map D.str := by simp
    rw [em]
    refine W_comp (bd := bd1 8) D.str (fun _ => true) (fun _ => D.bl true) (t :: r.map (·.1)) (fun x hx => ⟨_, rfl, ?_, fun _ => ?_⟩) ?_
    · simp
    · have hxn : x ∈ ns := by
        rcases List.mem_cons.mp hx with rfl | hx
        · exact (hps _ List.mem_cons_self).1
        · obtain ⟨p, hp, rfl⟩ := List.mem_map.mp hx
          exact (hps p (List.mem_cons_of_mem _ hp)).1
      simp [any_mem, hxn]
    rw [List.filter_eq_self.mpr fun _ _ => rfl]
    have ea2 : allD (.lst ((t :: r.map (·.1)).map fun _ => D.bl true)) = some (.bl true) := by
      have := allD_bl ((t :: r.map (·.1)).map fun _ => true)
      rw [List.map_map, List.all_map] at this
      refine this.trans ?_
      congr 2
      exact List.all_eq_true.mpr fun _ _ => rfl
    refine W_lft' ea2 ?_
    simp [e1]
    cases b1 with
    | false =>
      simp
      cases b with
      | false => rfl
      | true =>
        have k := hb.mp rfl
        exact nomatch h1.mpr ⟨k.mv, k.pl, k.w, k.ok, k.ch⟩
    | true =>
      obtain ⟨k1, k2, k3, k4, k5⟩ := h1.mp rfl
      have h0 := is_end_eq (mf := mf) S (hps _ List.mem_cons_self).1 (lastC c0 r)
      unfold sL at h0
      have hz : idxL (.tup ((wstr ((t, c0) :: r)).map D.str)) (.int 0) = some (.str t) := by
        rw [ewc]
        simp
      simp [hwl, hz, h0]
      have hmem : ∀ m ∈ t :: r.map (·.1), m ∈ ns := fun x hx => by
        rcases List.mem_cons.mp hx with rfl | hx
        · exact (hps _ List.mem_cons_self).1
        · obtain ⟨p, hp, rfl⟩ := List.mem_map.mp hx
          exact (hps p (List.mem_cons_of_mem _ hp)).1
      cases q : endB ns (lk sd) t (lastC c0 r) with
      | true => exact (hb.mpr ⟨hmem, k1, k2, k3, k4, k5, q⟩).symm
      | false =>
        cases b with
        | false => rfl
        | true =>
          rw [(hb.mp rfl).en] at q
          cases q)
  rw [show G_is_shift [book, ready, seating, wayD ((t, c0) :: r)] = some d from e, q]
end
end MM
/-! Q10 -/
namespace MM
open PySem Q
def ChP (f : Str → Option Str) : Option Str → List (Str × Str) → Prop
  | _, [] => True
  | none, q :: r => ChP f (some q.2) r
  | some c, q :: r => f c = some q.1 ∧ ChP f (some q.2) r
theorem chP_cn {f : Str → Option Str} : ∀ (r : List (Str × Str)) (c : Str), ChP f (some c) r ↔ Cn f c r
  | [], _ => Iff.rfl
  | q :: r, c => by
    show f c = some q.1 ∧ ChP f (some q.2) r ↔ f c = some q.1 ∧ Cn f q.2 r
    rw [chP_cn r q.2]
def AOk (mf : Str → List Str) (l : List (Str × Str)) : Prop := ∀ p ∈ l, p.2 ∈ mf p.1
theorem aok_cons {mf : Str → List Str} {q : Str × Str} {l : List (Str × Str)} : AOk mf (q :: l) ↔ q.2 ∈ mf q.1 ∧ AOk mf l := by
  unfold AOk
  simp only [List.mem_cons, forall_eq_or_imp]
theorem tup_at {xs : List Str} {k : Nat} {x : Str} (h : xs[k]? = some x) : idxL (.tup (xs.map D.str)) (.int (k : Int)) = some (.str x) := L2.atI_nat (by rw [List.getElem?_map, h]; rfl)
section
variable {ns : List Str} {mf : Str → List Str} {cs : List Str} {sd row : List (Str × Str)} {t : Str} {book ready seating : D}
theorem law_is_ok (I : Ins ns mf cs) (S : Sea ns mf sd) (hr : row.map (·.1) = ns) {c0 : Str} {r : List (Str × Str)} (hps : ∀ p ∈ (t, c0) :: r, p.1 ∈ ns ∧ p.2 ∈ cs) (hl : r.length ≤ 100) :
    ∃ b, G__law_is [.tup (row.map tp2), .dct (tbD ns mf), .tup (sd.map tp2), wayD ((t, c0) :: r)] = some (.bl b) ∧ (b = true ↔ Cnd ns mf (lk sd) t c0 r) := by
  obtain ⟨b, hb⟩ := boolOf (Cnd ns mf (lk sd) t c0 r)
  refine ⟨b, ?_, hb⟩
  obtain ⟨d, e, q⟩ := G_of (n := 4) (m := 8) (F := F__law_is) (ds := [.tup (row.map tp2), .dct (tbD ns mf), .tup (sd.map tp2), wayD ((t, c0) :: r)]) (Q := fun d => d = .bl b) rfl (by
    have hrl : row.length ≤ 8 := by
      have := congrArg List.length hr
      rw [List.length_map] at this
      rw [this]
      exact I.few
    have s1 := step_movers ((t, c0) :: r)
    have s2 := step_places ((t, c0) :: r) (by simp)
    have hw := wstr_len ((t, c0) :: r)
    rw [List.length_cons] at hw
    have hlen : ¬ ((wstr ((t, c0) :: r)).length : Int) = 0 := by omega
    have hmod : modI ((wstr ((t, c0) :: r)).length : Int) 2 = some 0 := by
      unfold modI
      rw [if_pos (by decide)]
      congr 1
      omega
    have htp := tpD_st S.nd
    unfold tp2 at htp
    have hsm1 : sml (.str t :: r.map (D.str ∘ fun x => x.1)) = some (.str t :: r.map (D.str ∘ fun x => x.1)) := sml_of (by simp; omega)
    have hsm2 : sml (.str c0 :: r.map (D.str ∘ fun x => x.2)) = some (.str c0 :: r.map (D.str ∘ fun x => x.2)) := sml_of (by simp; omega)
    have l1 := lenSet_eq (xs := t :: r.map (·.1)) (by simp; omega)
    have l2 := lenSet_eq (xs := c0 :: r.map (·.2)) (by simp; omega)
    have d1 := dedup_nd (t :: r.map (·.1))
    have d2 := dedup_nd (c0 :: r.map (·.2))
    rw [show (t :: r.map (·.1)).length = r.length + 1 by simp] at d1
    rw [show (c0 :: r.map (·.2)).length = r.length + 1 by simp] at d2
    simp at s1 s2 l1 l2
    unfold F__law_is
    simp [htp]
    rw [sml_of (by simp; omega), W_lft]
    refine W_comp (bd := bd1 11) tp2 (fun _ => true) (fun p => D.str p.1) row (fun x hx => ⟨_, rfl, ?_, fun _ => ?_⟩) ?_
    · simp
    · simp
    rw [List.filter_eq_self.mpr fun _ _ => rfl]
    have en : (row.map fun p => D.str p.1) = ns.map D.str := by rw [← hr, List.map_map]; rfl
    rw [en]
    simp [s1, s2, hsm1, hsm2, hmod]
    rw [if_neg (by simpa using hlen)]
    have em : (.str t :: r.map (D.str ∘ fun x => x.1)) = (t :: r.map (·.1)).map D.str := by simp
    have hmem : ∀ m ∈ t :: r.map (·.1), m ∈ ns := fun x hx => by
      rcases List.mem_cons.mp hx with rfl | hx
      · exact (hps _ List.mem_cons_self).1
      · obtain ⟨p, hp, rfl⟩ := List.mem_map.mp hx
        exact (hps p (List.mem_cons_of_mem _ hp)).1
    rw [em]
    refine W_comp (bd := bd1 10) D.str (fun _ => false) D.str (t :: r.map (·.1)) (fun x hx => ⟨_, rfl, ?_, fun z => nomatch z⟩) ?_
    · simp [any_mem, hmem x hx]
    rw [List.filter_eq_nil_iff.mpr (fun _ _ => by simp)]
    have enil : eqD true (.lst (List.map D.str [])) (.lst []) = some (.bl false) := eqD_nil (ds := []) (k := 0) true (fun _ h => nomatch h) (by decide)
    refine W_lft' enil ?_
    simp [l1, l2]
    by_cases h1 : (dedupS (t :: r.map (·.1))).length = r.length + 1
    case neg =>
      have hf : b = false := by
        cases b with
        | false => rfl
        | true => exact absurd (d1.mpr (hb.mp rfl).mv) h1
      have h1' : ¬ ((dedupS (t :: r.map (·.1))).length : Int) = (r.length : Int) + 1 := by omega
      simp [h1', hf]
    have h1' : ((dedupS (t :: r.map (·.1))).length : Int) = (r.length : Int) + 1 := by omega
    by_cases h2 : (dedupS (c0 :: r.map (·.2))).length = r.length + 1
    case neg =>
      have hf : b = false := by
        cases b with
        | false => rfl
        | true => exact absurd (d2.mpr (hb.mp rfl).pl) h2
      have h2' : ¬ ((dedupS (c0 :: r.map (·.2))).length : Int) = (r.length : Int) + 1 := by omega
      simp [h1', h2', hf]
    have h2' : ((dedupS (c0 :: r.map (·.2))).length : Int) = (r.length : Int) + 1 := by omega
    have hin : inD false (.str t) (.lst (sd.map (D.str ∘ fun x => x.2))) = some (.bl (decide (t ∈ sd.map (·.2)))) := by
      have := inD_strs false t (sd.map (·.2))
      rw [List.map_map] at this
      rw [this, any_mem]
      rfl
    by_cases h3 : Run (lk sd) t
    case pos =>
      have hf : b = false := by
        cases b with
        | false => rfl
        | true => exact absurd h3 (hb.mp rfl).w
      have : decide (t ∈ sd.map (·.2)) = true := decide_eq_true ((run_vals S.nd t).mpr h3)
      rw [this] at hin
      simp [h1', h2', hin, hf]
    have hdn : decide (t ∈ sd.map (·.2)) = false := decide_eq_false fun z => h3 ((run_vals S.nd t).mp z)
    rw [hdn] at hin
    simp [h1', h2', hin]
    have hall : ∀ x, x ∈ (t, c0) :: r → x.1 ∈ ns ∧ x.2 ∈ cs := hps
    obtain ⟨ps, hpe⟩ : ∃ ps, ps = (t, c0) :: r := ⟨_, rfl⟩
    have et : (.str t :: r.map (D.str ∘ fun x => x.1)) = (ps.map (·.1)).map D.str := by rw [hpe]; simp
    have ec : (.str c0 :: r.map (D.str ∘ fun x => x.2)) = (ps.map (·.2)).map D.str := by rw [hpe]; simp
    rw [et, ec]
    refine W_for (fun xs ρ _ => ∃ (done rest : List (Str × Str)) (x9 x10 : Option SV), ps = done ++ rest ∧ xs = enumL done.length ((rest.map (·.1)).map D.str) ∧
        ρ = [some (.val (.tup (row.map tp2))), some (.val (.dct (tbD ns mf))), some (.val (.tup (sd.map tp2))), some (.val (wayD ((t, c0) :: r))), none, some (.val (.dct (stD sd))), some (.val (.lst (ns.map D.str))), some (.val (.tup ((ps.map (·.1)).map D.str))), some (.val (.tup ((ps.map (·.2)).map D.str))), x9, x10, none] ∧
        ((AOk mf ps ∧ Cn (lk sd) c0 r) ↔ AOk mf rest ∧ ChP (lk sd) (done.getLast?.map (·.2)) rest))
      (R := fun d _ => d = .bl false ∧ b = false) ?_ ⟨[], ps, none, none, rfl, rfl, rfl, ?_⟩ ?_ ?_
    · rintro x xs ρ _ ⟨done, rest, x9, x10, e1, e2, rfl, hiff⟩
      cases rest with
      | nil => cases e2
      | cons q rest =>
        cases e2
        refine ⟨_, rfl, ?_⟩
        have hq := hps q (by rw [← hpe, e1]; simp)
        have a1 : idxL (.tup ((ps.map (·.2)).map D.str)) (.int (done.length : Int)) = some (.str q.2) := tup_at (by rw [e1]; simp)
        have bf : ¬ (q.2 ∈ mf q.1 ∧ ChP (lk sd) (done.getLast?.map (·.2)) (q :: rest)) → b = false := fun hn => by
          cases b with
          | false => rfl
          | true =>
            have k := hb.mp rfl
            obtain ⟨k1, k2⟩ := hiff.mp ⟨by rw [hpe]; exact k.ok, k.ch⟩
            exact absurd ⟨k1 q List.mem_cons_self, k2⟩ hn
        by_cases hm : q.2 ∈ mf q.1
        case neg =>
          simp at a1
          simp [a1, dget_tb hq.1, any_mem, hm]
          exact bf fun z => hm z.1
        rcases List.eq_nil_or_concat done with rfl | ⟨dn, q', e⟩
        · simp at a1
          simp [a1, dget_tb hq.1, any_mem, hm]
          refine ⟨[q], rest, by rw [e1]; rfl, rfl, ?_⟩
          rw [hiff]
          rw [aok_cons]
          exact ⟨fun z => ⟨z.1.2, z.2⟩, fun z => ⟨⟨hm, z.1⟩, z.2⟩⟩
        · rw [List.concat_eq_append] at e
          subst e
          have a2 : idxL (.tup ((ps.map (·.2)).map D.str)) (.int (dn.length : Int)) = some (.str q'.2) := tup_at (by rw [e1]; simp)
          have hg := getK_st (sd := sd) .non q'.2
          have e5 : ((dn ++ [q']).length : Int) - 1 = (dn.length : Int) := by simp
          have hgl : (dn ++ [q']).getLast?.map (·.2) = some q'.2 := by simp
          rw [hgl] at hiff bf
          have pos : (0 : Int) < (dn.length : Int) + 1 := by omega
          have goodc : lk sd q'.2 = some q.1 → ∃ done' rest', ps = done' ++ rest' ∧ enumL ((dn ++ [q']).length + 1) ((rest.map (·.1)).map D.str) = enumL done'.length ((rest'.map (·.1)).map D.str) ∧ ((AOk mf ps ∧ Cn (lk sd) c0 r) ↔ AOk mf rest' ∧ ChP (lk sd) (done'.getLast?.map (·.2)) rest') := fun hc => by
            refine ⟨dn ++ [q'] ++ [q], rest, by rw [e1]; simp, by simp, ?_⟩
            rw [hiff]
            rw [aok_cons]
            have : (dn ++ [q'] ++ [q]).getLast?.map (·.2) = some q.2 := by simp
            rw [this]
            exact ⟨fun z => ⟨z.1.2, z.2.2⟩, fun z => ⟨⟨hm, z.1⟩, hc, z.2⟩⟩
          cases ek : lk sd q'.2 with
          | none =>
            rw [ek] at hg
            simp at a1 a2 hg
            simp [a1, dget_tb hq.1, any_mem, hm, pos, a2, hg, eqD_nonstr true (I.sok _ (.inl hq.1))]
            exact bf fun z => by have := z.2.1; rw [ek] at this; cases this
          | some k =>
            rw [ek] at hg
            have hkn := S.va.mem _ _ ek
            have he := eqD_str true (I.sok _ (.inl hkn)) (I.sok _ (.inl hq.1))
            by_cases hkq : k = q.1
            · subst hkq
              obtain ⟨done', rest', g1, g2, g3⟩ := goodc ek
              simp at a1 a2 hg he g2
              simp [a1, dget_tb hq.1, any_mem, hm, pos, a2, hg, he]
              exact ⟨done', rest', g1, g2, g3⟩
            · simp at a1 a2 hg he
              have hbeq : (k == q.1) = false := by rw [beq_eq_false_iff_ne]; exact hkq
              rw [hbeq] at he
              simp [a1, dget_tb hq.1, any_mem, hm, pos, a2, hg, he]
              exact bf fun z => by have := z.2.1; rw [ek] at this; exact hkq (Option.some.inj this)
    · rw [hpe]
      have : ChP (lk sd) none ((t, c0) :: r) ↔ Cn (lk sd) c0 r := chP_cn r c0
      simp only [List.getLast?_nil, Option.map_none]
      rw [this]
    · rintro ρ' _ ⟨done, rest, x9, x10, e1, e2, rfl, hiff⟩
      cases rest with
      | cons _ _ => cases e2
      | nil =>
        obtain ⟨k1, k2⟩ := hiff.mpr ⟨(fun _ h => nomatch h), by cases done.getLast?.map (·.2) <;> trivial⟩
        rw [hpe] at k1
        have a1 : idxL (.tup ((ps.map (·.2)).map D.str)) (.int (-1)) = some (.str (lastC c0 r)) := by
          rw [hpe]
          rcases List.eq_nil_or_concat r with rfl | ⟨l, q, e⟩
          · exact L2.atI_last [] _
          · rw [List.concat_eq_append] at e
            subst e
            rw [last_snoc, List.map_cons, List.map_append, ← List.cons_append, List.map_append]
            exact L2.atI_last _ _
        have a0 : idxL (.tup ((ps.map (·.1)).map D.str)) (.int 0) = some (.str t) := by rw [hpe]; simp
        have hg := getK_st (sd := sd) .non (lastC c0 r)
        have htn := (hps _ List.mem_cons_self).1
        have hbe : b = endB ns (lk sd) t (lastC c0 r) := by
          cases q : endB ns (lk sd) t (lastC c0 r) with
          | true => exact hb.mpr ⟨hmem, d1.mp h1, d2.mp h2, h3, k1, k2, q⟩
          | false =>
            cases b with
            | false => rfl
            | true => rw [(hb.mp rfl).en] at q; cases q
        rw [hbe]
        unfold endB
        cases ek : lk sd (lastC c0 r) with
        | none =>
          rw [ek] at hg
          simp at a1 a0 hg
          simp [a1, a0, hg, isNon]
        | some k =>
          rw [ek] at hg
          have hkn := S.va.mem _ _ ek
          simp at a1 a0 hg
          simp [a1, a0, hg, isNon, idxOf_mem htn, idxOf_mem hkn]
    · rintro d _ ⟨rfl, hf⟩
      simp [hf])
  rw [show G__law_is [.tup (row.map tp2), .dct (tbD ns mf), .tup (sd.map tp2), wayD ((t, c0) :: r)] = some d from e, q]
end
end MM
/-! Q11 -/
namespace MM
open PySem Q
def extsL (mf : Str → List Str) (f : Str → Option Str) (ps : List (Str × Str)) (c : Str) : List (List (Str × Str)) := match f c with
  | none => []
  | some m => ((mf m).filter fun d => !(ps.map (·.2)).any (· == d)).map fun d => ps ++ [(m, d)]
section
variable {ns : List Str} {mf : Str → List Str} {cs : List Str} {sd row : List (Str × Str)} {t : Str} {book ready seating : D}
theorem pth_in (I : Ins ns mf cs) (S : Sea ns mf sd) (ht : t ∈ ns) {ps : List (Str × Str)} {c : Str} (h : Pth mf (lk sd) t ps c) : ∀ p ∈ ps, p.1 ∈ ns ∧ p.2 ∈ cs := by
  induction h with
  | one h => intro p hp; rw [List.mem_singleton.mp hp]; exact ⟨ht, I.sub t ht _ h⟩
  | @ext ps c m d h0 e h n ih =>
    intro p hp
    rcases List.mem_append.mp hp with hp | hp
    · exact ih p hp
    · rw [List.mem_singleton.mp hp]
      have hm := S.va.mem _ _ e
      exact ⟨hm, I.sub m hm _ h⟩
theorem pth_cut {f : Str → Option Str} {ps : List (Str × Str)} {c : Str} (h : Pth mf f t ps c) : ∀ k, 1 ≤ k → k ≤ ps.length → ∃ qs d, Pth mf f t qs d ∧ qs.length = k := by
  induction h with
  | @one c h =>
    intro k h1 h2
    simp at h2
    exact ⟨[(t, c)], c, .one h, by simp; omega⟩
  | @ext ps c m d h0 e h n ih =>
    intro k h1 h2
    rcases Nat.lt_or_ge ps.length k with lt | ge
    · exact ⟨ps ++ [(m, d)], d, .ext h0 e h n, by simp at h2 ⊢; omega⟩
    · exact ih k h1 ge
theorem pd_way (I : Ins ns mf cs) {ps : List (Str × Str)} (h : ∀ p ∈ ps, p.1 ∈ ns ∧ p.2 ∈ cs) : Pd 1 (wayD ps) := pd_tup fun d hd => by
  obtain ⟨x, hx, rfl⟩ := List.mem_map.mp hd
  obtain ⟨p, hp, hx⟩ := wstr_mem hx
  rcases hx with rfl | rfl
  · exact pd_str (I.sok _ (.inl (h p hp).1))
  · exact pd_str (I.sok _ (.inr (h p hp).2))
/-- level l: all the paths of l places are in new, all the shorter that end rightly are found -/
structure LJ (ns : List Str) (mf : Str → List Str) (f : Str → Option Str) (t : Str) (l : Nat) (new found : List (List (Str × Str))) : Prop where
  pos : 1 ≤ l
  are : ∀ ps ∈ new, ps.length = l ∧ ∃ c, Pth mf f t ps c
  all : ∀ ps c, Pth mf f t ps c → ps.length = l → ps ∈ new
  fnd : ∀ ps ∈ found, ∃ c, Pth mf f t ps c ∧ endB ns f t c = true
  fal : ∀ ps c, Pth mf f t ps c → ps.length < l → endB ns f t c = true → ps ∈ found
  nl : new.length ≤ 4 ^ l
  fl : found.length ≤ 4 ^ l
/-- within a level: done of it, rest of it -/
structure LK (ns : List Str) (mf : Str → List Str) (f : Str → Option Str) (t : Str) (l : Nat) (done rest later found : List (List (Str × Str))) : Prop where
  pos : 1 ≤ l
  are : ∀ ps ∈ rest, ps.length = l ∧ ∃ c, Pth mf f t ps c
  lat : ∀ ps ∈ later, ps.length = l + 1 ∧ ∃ c, Pth mf f t ps c
  lal : ∀ ps c d m, ps ∈ done → Pth mf f t ps c → f c = some m → d ∈ mf m → d ∉ ps.map (·.2) → ps ++ [(m, d)] ∈ later
  fnd : ∀ ps ∈ found, ∃ c, Pth mf f t ps c ∧ endB ns f t c = true
  fal : ∀ ps c, Pth mf f t ps c → ps.length < l → endB ns f t c = true → ps ∈ found
  fdn : ∀ ps c, ps ∈ done → Pth mf f t ps c → endB ns f t c = true → ps ∈ found
  nl : later.length ≤ 4 * done.length
  fl : found.length ≤ 4 ^ l + done.length
theorem LK.step (I : Ins ns mf cs) (S : Sea ns mf sd) {l : Nat} {done rest later found : List (List (Str × Str))} {ps : List (Str × Str)} {c : Str} (h : LK ns mf (lk sd) t l done (ps :: rest) later found) (hp : Pth mf (lk sd) t ps c) :
    LK ns mf (lk sd) t l (done ++ [ps]) rest (later ++ extsL mf (lk sd) ps c) (if endB ns (lk sd) t c = true then found ++ [ps] else found) := by
  have hlen := (h.are ps List.mem_cons_self).1
  have hel : (extsL mf (lk sd) ps c).length ≤ 4 := by
    unfold extsL
    cases e : lk sd c with
    | none => simp
    | some m =>
      simp only [List.length_map]
      exact Nat.le_trans (List.length_filter_le _ _) (I.mlen (S.va.mem _ _ e))
  refine ⟨h.pos, fun x hx => h.are x (List.mem_cons_of_mem _ hx), fun x hx => ?_, fun x d y m hx hpx e hy hn => ?_, fun x hx => ?_, fun x d hpx hl he => ?_, fun x d hx hpx he => ?_, ?_, ?_⟩
  · rcases List.mem_append.mp hx with hx | hx
    · exact h.lat x hx
    · unfold extsL at hx
      cases e : lk sd c with
      | none => rw [e] at hx; cases hx
      | some m =>
        rw [e] at hx
        obtain ⟨d, hd, rfl⟩ := List.mem_map.mp hx
        obtain ⟨hd1, hd2⟩ := List.mem_filter.mp hd
        rw [any_mem] at hd2
        exact ⟨by simp [hlen], d, .ext hp e hd1 (by simpa using hd2)⟩
  · rcases List.mem_append.mp hx with hx | hx
    · exact List.mem_append_left _ (h.lal x d y m hx hpx e hy hn)
    · simp at hx
      subst hx
      have := hpx.det hp
      subst this
      refine List.mem_append_right _ ?_
      unfold extsL
      rw [e]
      refine List.mem_map.mpr ⟨y, List.mem_filter.mpr ⟨hy, ?_⟩, rfl⟩
      rw [any_mem]
      simpa using hn
  · split at hx
    · next he =>
      rcases List.mem_append.mp hx with hx | hx
      · exact h.fnd x hx
      · simp at hx; subst hx; exact ⟨c, hp, he⟩
    · exact h.fnd x hx
  · have := h.fal x d hpx hl he
    split
    · exact List.mem_append_left _ this
    · exact this
  · rcases List.mem_append.mp hx with hx | hx
    · have := h.fdn x d hx hpx he
      split
      · exact List.mem_append_left _ this
      · exact this
    · simp at hx
      subst hx
      have := hpx.det hp
      subst this
      rw [if_pos he]
      simp
  · have := h.nl
    simp only [List.length_append, List.length_singleton]
    omega
  · have := h.fl
    split
    · simp only [List.length_append, List.length_singleton]; omega
    · simp only [List.length_append, List.length_singleton]; omega
theorem LJ.start {f : Str → Option Str} {l : Nat} {new found : List (List (Str × Str))} (h : LJ ns mf f t l new found) : LK ns mf f t l [] new [] found :=
  ⟨h.pos, h.are, (fun _ z => nomatch z), (fun _ _ _ _ z => nomatch z), h.fnd, h.fal, (fun _ _ z => nomatch z), by simp, by simpa using h.fl⟩
theorem LK.fin {f : Str → Option Str} {l : Nat} {new later found f0 : List (List (Str × Str))} (h0 : LJ ns mf f t l new f0) (h : LK ns mf f t l new [] later found) : LJ ns mf f t (l + 1) later found where
  pos := by omega
  are := h.lat
  all := fun ps c hp hl => by
    cases hp with
    | one _ => simp at hl; have := h.pos; omega
    | @ext ps c m d hp0 e hd hn =>
      exact h.lal ps c _ m (h0.all ps c hp0 (by simp at hl; exact hl)) hp0 e hd hn
  fnd := h.fnd
  fal := fun ps c hp hl he => by
    rcases Nat.lt_or_ge ps.length l with lt | ge
    · exact h.fal ps c hp lt he
    · exact h.fdn ps c (h0.all ps c hp (by omega)) hp he
  nl := by
    have := h.nl
    have := h0.nl
    rw [Nat.pow_succ]
    omega
  fl := by
    have := h.fl
    have := h0.nl
    rw [Nat.pow_succ]
    omega
end
end MM
/-! Q12 -/
namespace MM
open PySem Q
section
variable {ns : List Str} {mf : Str → List Str} {cs : List Str} {sd row : List (Str × Str)} {t : Str} {book ready seating : D}
theorem law_shifts_ok (I : Ins ns mf cs) (S : Sea ns mf sd) (hr : row.map (·.1) = ns) (ht : t ∈ ns) :
    ∃ ways : List (List (Str × Str)), G__law_shifts [.tup (row.map tp2), .dct (tbD ns mf), .tup (sd.map tp2), .str t] = some (.lst (ways.map wayD)) ∧ (∀ ps ∈ ways, ∃ c, Shf ns mf (lk sd) t ps c) ∧ (∀ ps c, Shf ns mf (lk sd) t ps c → ps ∈ ways) ∧ ways.length ≤ 10000 := by
  obtain ⟨Q, hQ⟩ : ∃ Q : D → Prop, Q = fun (d : D) => ∃ ways : List (List (Str × Str)), d = .lst (ways.map wayD) ∧ (∀ ps ∈ ways, ∃ c, Shf ns mf (lk sd) t ps c) ∧ (∀ ps c, Shf ns mf (lk sd) t ps c → ps ∈ ways) ∧ ways.length ≤ 10000 := ⟨_, rfl⟩
  have key := G_of (n := 4) (m := 9) (F := F__law_shifts) (ds := [.tup (row.map tp2), .dct (tbD ns mf), .tup (sd.map tp2), .str t]) (Q := Q) rfl ?_
  · obtain ⟨d, e, q⟩ := key
    rw [hQ] at q
    obtain ⟨ways, rfl, h⟩ := q
    exact ⟨ways, e, h⟩
  have hrl : row.length ≤ 8 := by
    have := congrArg List.length hr
    rw [List.length_map] at this
    rw [this]
    exact I.few
  have htp := tpD_st S.nd
  unfold tp2 at htp
  have hml := I.mlen ht
  unfold F__law_shifts
  simp [htp, dget_tb ht]
  rw [sml_of (by simp; omega), W_lft]
  refine W_comp (bd := bd1 12) D.str (fun _ => true) (fun d => wayD [(t, d)]) (mf t) (fun x hx => ⟨_, rfl, ?_, fun _ => ?_⟩) ?_
  · simp
  · simp [wstr]
  rw [List.filter_eq_self.mpr fun _ _ => rfl]
  try simp
  rw [sml_of (by simp; omega), W_lft]
  refine W_comp (bd := bd1 10) tp2 (fun _ => true) (fun p => D.str p.1) row (fun x hx => ⟨_, rfl, ?_, fun _ => ?_⟩) ?_
  · simp
  · simp
  rw [List.filter_eq_self.mpr fun _ _ => rfl]
  have en : (row.map fun p => D.str p.1) = ns.map D.str := by rw [← hr, List.map_map]; rfl
  rw [en]
  have hin : inD false (.str t) (.lst (sd.map (D.str ∘ fun x => x.2))) = some (.bl (decide (t ∈ sd.map (·.2)))) := by
    have := inD_strs false t (sd.map (·.2))
    rw [List.map_map] at this
    rw [this, any_mem]
    rfl
  by_cases h3 : Run (lk sd) t
  case pos =>
    have : decide (t ∈ sd.map (·.2)) = true := decide_eq_true ((run_vals S.nd t).mpr h3)
    rw [this] at hin
    simp [hin]
    rw [hQ]
    exact ⟨[], rfl, (fun _ h => nomatch h), (fun ps c h => absurd h3 h.2.1), by simp⟩
  have hdn : decide (t ∈ sd.map (·.2)) = false := decide_eq_false fun z => h3 ((run_vals S.nd t).mp z)
  rw [hdn] at hin
  simp [hin]
  refine W_while (fun m ρ _ => ∃ (l : Nat) (new found : List (List (Str × Str))) (x8 x9 x10 x11 x12 : Option SV), ρ = [some (.val (.tup (row.map tp2))), some (.val (.dct (tbD ns mf))), some (.val (.tup (sd.map tp2))), some (.val (.str t)), some (.val (.lst (ns.map D.str))), some (.val (.dct (stD sd))), some (.ol (found.map wayD)), some (.val (.lst (new.map wayD))), x8, x9, x10, x11, x12] ∧ l + m = 6 ∧ LJ ns mf (lk sd) t l new found)
    (Qn := fun ρ _ => ∃ (l : Nat) (found : List (List (Str × Str))), ρ[6]? = some (some (.ol (found.map wayD))) ∧ l ≤ 6 ∧ LJ ns mf (lk sd) t l [] found) (R := fun _ _ => False) ?_ (m := 5) ⟨1, (mf t).map fun d => [(t, d)], [], none, none, none, none, none, by simp, rfl, ?_⟩ (by omega) ?_ ?_
  · rintro m ρ _ ⟨l, new, found, x8, x9, x10, x11, x12, rfl, hlm, J⟩
    have hpin : ∀ ps ∈ new, ∀ p ∈ ps, p.1 ∈ ns ∧ p.2 ∈ cs := fun ps hps => by
      obtain ⟨_, c, hp⟩ := J.are ps hps
      exact pth_in I S ht hp
    have hnil := eqD_nil (ds := new.map wayD) (k := 1) true (fun d hd => by
      obtain ⟨ps, hps, rfl⟩ := List.mem_map.mp hd
      exact pd_way I (hpin ps hps)) (by decide)
    cases new with
    | nil =>
      simp at hnil
      simp [hnil]
      exact ⟨l, found, rfl, by omega, J⟩
    | cons p0 new0 =>
      have hl4 : l ≤ 4 := by
        obtain ⟨h1, c, hp⟩ := J.are p0 List.mem_cons_self
        rw [← h1]
        exact pth_len I S ht hp
      have hpow : 4 ^ l ≤ 256 := by
        have : 4 ^ l ≤ 4 ^ 4 := Nat.pow_le_pow_right (by decide) hl4
        simpa using this
      obtain ⟨new, hnew⟩ : ∃ new, new = p0 :: new0 := ⟨_, rfl⟩
      rw [← hnew] at J hpin
      have hnil2 : eqD true (.lst (new.map wayD)) (.lst []) = some (.bl true) := by
        rw [hnew]
        rw [hnil]
        rfl
      rw [← hnew]
      simp [hnil2]
      refine W_for (fun xs ρ _ => ∃ (done rest later found : List (List (Str × Str))) (x9 x10 x11 x12 : Option SV), new = done ++ rest ∧ xs = rest.map wayD ∧ ρ = [some (.val (.tup (row.map tp2))), some (.val (.dct (tbD ns mf))), some (.val (.tup (sd.map tp2))), some (.val (.str t)), some (.val (.lst (ns.map D.str))), some (.val (.dct (stD sd))), some (.ol (found.map wayD)), some (.val (.lst (new.map wayD))), some (.val (.lst (later.map wayD))), x9, x10, x11, x12] ∧ LK ns mf (lk sd) t l done rest later found) (R := fun _ _ => False) ?_ ⟨[], new, [], found, x9, x10, x11, x12, rfl, rfl, rfl, J.start⟩ ?_ ?_
      · rintro x xs ρ _ ⟨done, rest, later, found, x9, x10, x11, x12, e1, e2, rfl, L⟩
        cases rest with
        | nil => cases e2
        | cons ps rest =>
          cases e2
          refine ⟨_, rfl, ?_⟩
          obtain ⟨hpl, c, hp⟩ := L.are ps List.mem_cons_self
          have L' := L.step I S hp
          have hwl := pth_last hp
          have hg := getK_st (sd := sd) .non c
          have hdl : done.length ≤ 256 := by
            have h1 := congrArg List.length e1
            have h2 := J.nl
            simp at h1
            omega
          have hfl : (found.map wayD).length ≤ 100000 := by
            have := L.fl
            simp
            omega
          have hll : later.length ≤ 2000 := by
            have := L.nl
            omega
          have hwsl : (wstr ps).length ≤ 100 := by rw [wstr_len]; omega
          unfold wayD at hwl
          cases ek : lk sd c with
          | none =>
            have he : endB ns (lk sd) t c = true := by unfold endB; rw [ek]
            have hx : extsL mf (lk sd) ps c = [] := by unfold extsL; rw [ek]
            rw [he, hx, if_pos rfl, List.append_nil] at L'
            rw [ek] at hg
            simp at hg hfl
            simp [hwl, hg, isNon, appE, hfl]
            exact ⟨done ++ [ps], rest, by rw [e1]; simp, rfl, later, found ++ [ps], ⟨by simp, rfl⟩, L'⟩
          | some k =>
            have hkn := S.va.mem _ _ ek
            have hkl := I.mlen hkn
            have hex : extsL mf (lk sd) ps c = ((mf k).filter fun d => !(ps.map (·.2)).any (· == d)).map fun d => ps ++ [(k, d)] := by unfold extsL; rw [ek]
            have hcat : catL (.lst (later.map wayD)) (.lst ((((mf k).filter fun d => !(ps.map (·.2)).any (· == d))).map fun d => wayD (ps ++ [(k, d)]))) = some ((later ++ extsL mf (lk sd) ps c).map wayD) := by
              have h1 : ((mf k).filter fun d => !(ps.map (·.2)).any (· == d)).length ≤ 4 := Nat.le_trans (List.length_filter_le _ _) hkl
              show sml _ = _
              rw [sml_of (by simp at h1 ⊢; omega), hex, List.map_append, List.map_map]
              rfl
            have hcomp : ∀ (fo : List D) (y9 y10 y12 : Option SV), W (compF (bd1 12) (tst (o2 (inD true) (xB 12) (stpT (xB 9) (pS (cI 1)) 2))) (o2 catT (xB 9) (eTup (aC (xV 11) (aC (xV 12) aN)))) ((mf k).map D.str)
                [some (.val (.tup (row.map tp2))), some (.val (.dct (tbD ns mf))), some (.val (.tup (sd.map tp2))), some (.val (.str t)), some (.val (.lst (ns.map D.str))), some (.val (.dct (stD sd))), some (.ol fo), some (.val (.lst (new.map wayD))), some (.val (.lst (later.map wayD))), some (.val (wayD ps)), y10, some (.val (.str k)), none]) ()
                fun ds _ => ds = (((mf k).filter fun d => !(ps.map (·.2)).any (· == d))).map fun d => wayD (ps ++ [(k, d)]) := fun fo y9 y10 y12 => by
              refine W_comp (bd := bd1 12) D.str (fun d => !(ps.map (·.2)).any (· == d)) (fun d => wayD (ps ++ [(k, d)])) (mf k) (fun d hd => ⟨_, rfl, ?_, fun _ => ?_⟩) rfl
              · have h2 := step_places ps (pth_ne hp)
                simp [h2]
                rw [sml_of (by simp; omega)]
                simp [inD]
              · simp
                have : catT (.tup ((wstr ps).map D.str)) (.tup [.str k, .str d]) = some (wayD (ps ++ [(k, d)])) := by
                  show (sml _).map D.tup = _
                  rw [sml_of (by simp; omega), wayD_snoc]
                  rfl
                exact W_lft' this rfl
            rw [ek] at hg
            have hsml : sml ((mf k).map D.str) = some ((mf k).map D.str) := sml_of (by simp; omega)
            by_cases hlt : ix ns t < ix ns k
            · have he : endB ns (lk sd) t c = true := by unfold endB; rw [ek]; exact decide_eq_true hlt
              rw [he, if_pos rfl] at L'
              have hlt' : (ix ns t : Int) < (ix ns k : Int) := by omega
              simp at hg hfl
              simp [hwl, hg, isNon, appE, hfl, idxOf_mem ht, idxOf_mem hkn, hlt, dget_tb hkn, hsml]
              refine (hcomp _ none _ none).mono fun ds _ hds => ?_
              subst hds
              refine W_lft' hcat ?_
              exact ⟨done ++ [ps], rest, by rw [e1]; simp, rfl, _, found ++ [ps], ⟨by simp, rfl⟩, L'⟩
            · have he : endB ns (lk sd) t c = false := by unfold endB; rw [ek]; exact decide_eq_false hlt
              rw [he, if_neg Bool.false_ne_true] at L'
              simp at hg hfl
              simp [hwl, hg, isNon, appE, hfl, idxOf_mem ht, idxOf_mem hkn, hlt, dget_tb hkn, hsml]
              refine (hcomp _ none _ none).mono fun ds _ hds => ?_
              subst hds
              refine W_lft' hcat ?_
              exact ⟨done ++ [ps], rest, by rw [e1]; simp, rfl, _, found, ⟨rfl, rfl⟩, L'⟩
      · rintro ρ' _ ⟨done, rest, later, found, x9, x10, x11, x12, e1, e2, rfl, L⟩
        cases rest with
        | cons _ _ => cases e2
        | nil =>
          rw [List.append_nil] at e1
          subst e1
          simp
          exact ⟨m - 1, by omega, l + 1, later, found, ⟨rfl, rfl⟩, by omega, L.fin J⟩
      · exact fun _ _ z => False.elim z
  · refine ⟨Nat.le_refl _, fun ps hps => ?_, fun ps c hp hl => ?_, (fun _ z => nomatch z), fun ps c hp hl => ?_, by simp; omega, by simp⟩
    · obtain ⟨d, hd, rfl⟩ := List.mem_map.mp hps
      exact ⟨rfl, d, .one hd⟩
    · cases hp with
      | one h => exact List.mem_map.mpr ⟨c, h, rfl⟩
      | @ext qs c m d h0 e h n =>
        have := pth_ne h0
        have := List.length_pos_iff.mpr this
        rw [List.length_append, List.length_singleton] at hl
        omega
    · have := List.length_pos_iff.mpr (pth_ne hp)
      omega
  · rintro ρ' _ ⟨l, found, hρ, hl, J⟩
    have hfl : found.length ≤ 4 ^ 6 := Nat.le_trans J.fl (Nat.pow_le_pow_right (by decide) hl)
    have hsort : sortD (found.map wayD) = some ((isort (fun a b => leD (wayD a) (wayD b)) found).map wayD) := by
      unfold sortD
      have e : (found.map wayD).all isT = true := List.all_eq_true.mpr fun d hd => by
        obtain ⟨ps, hps, rfl⟩ := List.mem_map.mp hd
        obtain ⟨c, hp, _⟩ := J.fnd ps hps
        obtain ⟨c0, r, rfl, _⟩ := hp.cons
        show (txts ((wstr ((t, c0) :: r)).map D.str)).isSome = true
        rw [txts_map]
        rfl
      rw [e]
      have : (found.map wayD).length ≤ 100000 := by simp; omega
      simp only [Bool.or_true, Bool.true_or, Bool.true_and, this, decide_true, if_true]
      rw [isort_map wayD (fun a b => leD (wayD a) (wayD b)) leD fun a b => rfl]
    have hperm := isort_perm (fun a b => leD (wayD a) (wayD b)) found
    simp [hρ]
    refine W_lft' hsort ?_
    rw [hQ]
    refine ⟨_, rfl, fun ps hps => ?_, fun ps c h => ?_, ?_⟩
    · obtain ⟨c, hp, he⟩ := J.fnd ps (hperm.mem_iff.mp hps)
      exact ⟨c, ht, h3, hp, he⟩
    · refine hperm.mem_iff.mpr ?_
      rcases Nat.lt_or_ge ps.length l with lt | ge
      · exact J.fal ps c h.2.2.1 lt h.2.2.2
      · obtain ⟨qs, d, hq, hql⟩ := pth_cut h.2.2.1 l J.pos ge
        exact nomatch J.all qs d hq hql
    · rw [hperm.length_eq]
      omega
  · exact fun _ _ z => False.elim z
end
end MM
/-! Q13 -/
namespace MM
open PySem Q
/-! ### rows of shifts -/
inductive Chain (ns : List Str) (mf : Str → List Str) : (Str → Option Str) → List (List (Str × Str)) → (Str → Option Str) → Prop
  | nil {f : Str → Option Str} : Chain ns mf f [] f
  | cons {f g : Str → Option Str} {t c : Str} {ps : List (Str × Str)} {rows : List (List (Str × Str))} : Shf ns mf f t ps c → Chain ns mf (mv f ps) rows g → Chain ns mf f (ps :: rows) g
noncomputable def val (ns : List Str) (f : Str → Option Str) : Nat := valB (fun m => @decide (Run f m) (Classical.propDecidable _)) ns
section
variable {ns : List Str} {mf : Str → List Str} {cs : List Str} {sd row : List (Str × Str)} {t : Str} {book ready seating : D}
theorem Chain.snoc {f g : Str → Option Str} {t c : Str} {ps : List (Str × Str)} {rows : List (List (Str × Str))} (h : Chain ns mf f rows g) (s : Shf ns mf g t ps c) : Chain ns mf f (rows ++ [ps]) (mv g ps) := by
  induction h with
  | nil => exact .cons s .nil
  | cons s0 _ ih => exact .cons s0 (ih s)
theorem chain_cons {f g : Str → Option Str} {ps : List (Str × Str)} {rows : List (List (Str × Str))} : Chain ns mf f (ps :: rows) g ↔ (∃ t c, Shf ns mf f t ps c) ∧ Chain ns mf (mv f ps) rows g := by
  constructor
  · intro h
    cases h with
    | cons s r => exact ⟨⟨_, _, s⟩, r⟩
  · rintro ⟨⟨t, c, s⟩, r⟩
    exact .cons s r
theorem val_up {f : Str → Option Str} {t c : Str} {ps : List (Str × Str)} (v : Va ns mf f) (s : Shf ns mf f t ps c) (nd : ns.Nodup) : val ns f < val ns (mv f ps) := by
  obtain ⟨ht, hw, hp, he⟩ := s
  obtain ⟨_, hrun, _⟩ := hp.moved v.ok v.inj hw
  obtain ⟨a, b, e⟩ := List.append_of_mem ht
  have nta : t ∉ a := fun z => by
    rw [e, List.nodup_append] at nd
    exact nd.2.2 t z t (by simp) rfl
  unfold val
  have key := valB_up (r := fun m => @decide (Run f m) (Classical.propDecidable _)) (r' := fun m => @decide (Run (mv f ps) m) (Classical.propDecidable _)) (t := t) (b := b)
    (@decide_eq_false _ (Classical.propDecidable _) hw) (@decide_eq_true _ (Classical.propDecidable _) ((hrun t).mpr (.inl rfl))) a fun n hn => by
      have hlt : ix ns n < ix ns t := by rw [e]; exact ix_split nta hn
      have : Run f n ↔ Run (mv f ps) n := by
        rw [hrun n]
        refine ⟨fun r => .inr ⟨r, fun q => ?_⟩, fun r => r.elim (fun z => absurd hn (by rw [z]; exact nta)) (·.1)⟩
        unfold endB at he
        rw [q] at he
        have := of_decide_eq_true he
        omega
      by_cases r : Run f n
      · rw [@decide_eq_true _ (Classical.propDecidable _) r, @decide_eq_true _ (Classical.propDecidable _) (this.mp r)]
      · rw [@decide_eq_false _ (Classical.propDecidable _) r, @decide_eq_false _ (Classical.propDecidable _) (fun z => r (this.mpr z))]
  rw [e]
  exact key
theorem val_lt (ns : List Str) (f : Str → Option Str) : val ns f < 2 ^ ns.length := valB_lt _ _
/-- the seating, however it is written, says sd -/
structure Seat (seating : D) (sd : List (Str × Str)) : Prop where
  of : GK_seats_of [seating] = some (stD sd)
  tup : ∃ h, G_tupled 8 [seating] = some h ∧ GK_seats_of [h] = some (stD sd)
theorem seat_pr {sd : List (Str × Str)} (nd : (sd.map (·.1)).Nodup) (hl : sd.length ≤ 1000) : GK_seats_of [.tup (sd.map pr2)] = some (stD sd) :=
  seats_of_eq pr2 nd (by omega) rfl rfl (fun _ => rfl) fun _ => rfl
theorem seat_tp {sd : List (Str × Str)} (nd : (sd.map (·.1)).Nodup) (hl : sd.length ≤ 1000) : Seat (.tup (sd.map tp2)) sd :=
  have h := seats_of_eq tp2 nd (by omega) rfl rfl (fun _ => rfl) fun _ => rfl
  ⟨h, _, tupled_rows 5 tp2 rfl rfl (by omega) (fun _ => rfl) fun _ => rfl, h⟩
theorem seat_ls {sd : List (Str × Str)} (nd : (sd.map (·.1)).Nodup) (hl : sd.length ≤ 1000) : Seat (.lst (sd.map ls2)) sd :=
  ⟨seats_of_eq ls2 nd (by omega) rfl rfl (fun _ => rfl) fun _ => rfl, _, tupled_rows 5 ls2 rfl rfl (by omega) (fun _ => rfl) (fun _ => rfl), seats_of_eq tp2 nd (by omega) rfl rfl (fun _ => rfl) fun _ => rfl⟩
theorem settling_ok (I : Ins ns mf cs) (S : Sea ns mf sd) (B : Bk book ready ns mf) (hs : Seat seating sd) : ∃ rows g, G_settling [book, ready, seating] = some (.tup (rows.map wayD)) ∧ Chain ns mf (lk sd) rows g ∧ Stl ns mf g ∧ rows.length ≤ 300 := by
  obtain ⟨Q, hQ⟩ : ∃ Q : D → Prop, Q = fun (d : D) => ∃ rows g, d = .tup (rows.map wayD) ∧ Chain ns mf (lk sd) rows g ∧ Stl ns mf g ∧ rows.length ≤ 300 := ⟨_, rfl⟩
  have key := G_of (n := 3) (m := 3) (F := F_settling) (ds := [book, ready, seating]) (Q := Q) rfl ?_
  · obtain ⟨d, e, q⟩ := key
    rw [hQ] at q
    obtain ⟨rows, g, rfl, h⟩ := q
    exact ⟨rows, g, e, h⟩
  obtain ⟨h0, eh, hs0⟩ := hs.tup
  obtain ⟨w, ew, hw⟩ := next_shift_ok I S B hs0
  have hpow : 2 ^ ns.length ≤ 256 := Nat.le_trans (Nat.pow_le_pow_right (by decide) I.few) (by decide)
  have hvl := val_lt ns (lk sd)
  unfold F_settling
  simp [eh, ew]
  refine W_while (fun m ρ _ => ∃ (here way : D) (rows : List (List (Str × Str))) (sd' : List (Str × Str)), ρ = [some (.val book), some (.val ready), some (.val seating), some (.val way), some (.val here), some (.ol (rows.map wayD))] ∧ Sea ns mf sd' ∧ GK_seats_of [here] = some (stD sd') ∧ Chain ns mf (lk sd) rows (lk sd') ∧
      ((way = .non ∧ Stl ns mf (lk sd')) ∨ ∃ t ps c, way = wayD ps ∧ Shf ns mf (lk sd') t ps c) ∧ m + val ns (lk sd') = 2 ^ ns.length ∧ rows.length + m ≤ 256)
    (Qn := fun ρ _ => ∃ (x4 : Option SV) (rows : List (List (Str × Str))) (g : Str → Option Str), ρ[5]? = some (some (.ol (rows.map wayD))) ∧ Chain ns mf (lk sd) rows g ∧ Stl ns mf g ∧ rows.length ≤ 256) (R := fun _ _ => False) ?_ (m := 2 ^ ns.length - val ns (lk sd)) ⟨h0, w, [], sd, rfl, S, hs0, .nil, hw, by omega, by simp; omega⟩ (by omega) ?_ ?_
  · rintro m ρ _ ⟨here, way, rows, sd', rfl, S', hs', hc, hw, hm, hrl⟩
    rcases hw with ⟨rfl, hst⟩ | ⟨t, ps, c, rfl, s⟩
    · simp [isNon]
      exact ⟨rows, rfl, _, hc, hst, by omega⟩
    · have hpl := pth_len I S' s.1 s.2.2.1
      have hsl := S'.len I
      have he := shifted_eq (seating := here) S' hs' (pth_ne s.2.2.1) (by omega)
      have S2 := s.sea S'
      have hl2 : (srtP (putAll sd' ps)).length ≤ 1000 := Nat.le_trans (S2.len I) (by decide)
      have hs2 := seat_pr S2.nd hl2
      have hlk := Shf.lk (mf := mf) (ps := ps) S'
      obtain ⟨w2, ew2, hw2⟩ := next_shift_ok I S2 B hs2
      have hup := val_up S'.va s I.nd
      rw [← hlk] at hup
      have hvl2 := val_lt ns (lk (srtP (putAll sd' ps)))
      have hrl2 : (rows.map wayD).length ≤ 100000 := by simp; omega
      unfold wayD at he
      simp at hrl2
      simp [isNon, appE, hrl2, he, ew2]
      refine ⟨2 ^ ns.length - val ns (lk (srtP (putAll sd' ps))), by omega, _, w2, rows ++ [ps], ⟨rfl, rfl, by simp⟩, srtP (putAll sd' ps), S2, hs2, ?_, hw2.imp id (fun ⟨t, p, c, a, b⟩ => ⟨t, p, a, c, b⟩), by omega, by simp; omega⟩
      rw [hlk]
      exact hc.snoc s
  · rintro ρ' _ ⟨x4, rows, g, hρ, hc, hst, hl⟩
    simp [hρ]
    rw [hQ]
    exact ⟨rows, g, rfl, hc, hst, by omega⟩
  · exact fun _ _ z => False.elim z
end
end MM
/-! Q14 -/
namespace MM
open PySem Q
/-- a row of ways that may be read: each not empty, not long, of the task's names -/
def Rdy (ns cs : List Str) (rows : List (List (Str × Str))) : Prop := ∀ ps ∈ rows, ps ≠ [] ∧ ps.length ≤ 100 ∧ ∀ p ∈ ps, p.1 ∈ ns ∧ p.2 ∈ cs
section
variable {ns : List Str} {mf : Str → List Str} {cs : List Str} {sd row : List (Str × Str)} {t : Str} {book ready seating : D}
theorem shift_iff (v : Va ns mf (lk sd)) {t0 c0 : Str} {r : List (Str × Str)} {g : Str → Option Str} {rows : List (List (Str × Str))} : (Cnd ns mf (lk sd) t0 c0 r ∧ Chain ns mf (mv (lk sd) ((t0, c0) :: r)) rows g) ↔ Chain ns mf (lk sd) (((t0, c0) :: r) :: rows) g := by
  rw [chain_cons, cnd_iff v]
theorem is_settling_ok (I : Ins ns mf cs) (S : Sea ns mf sd) (B : Bk book ready ns mf) (hs : Seat seating sd) {rows : List (List (Str × Str))} (hr : Rdy ns cs rows) :
    ∃ b, G_is_settling [book, ready, seating, .tup (rows.map wayD)] = some (.bl b) ∧ (b = true ↔ ∃ g, Chain ns mf (lk sd) rows g ∧ Stl ns mf g) := by
  obtain ⟨b, hb⟩ := boolOf (∃ g, Chain ns mf (lk sd) rows g ∧ Stl ns mf g)
  refine ⟨b, ?_, hb⟩
  obtain ⟨h0, eh, hs0⟩ := hs.tup
  obtain ⟨d, e, q⟩ := G_of (n := 4) (m := 2) (F := F_is_settling) (ds := [book, ready, seating, .tup (rows.map wayD)]) (Q := fun d => d = .bl b) rfl (by
    unfold F_is_settling
    simp [eh]
    refine W_for (fun xs ρ _ => ∃ (here : D) (rest : List (List (Str × Str))) (sd' : List (Str × Str)) (x5 : Option SV), xs = rest.map wayD ∧ ρ = [some (.val book), some (.val ready), some (.val seating), some (.val (.tup (rows.map wayD))), some (.val here), x5] ∧ Sea ns mf sd' ∧ GK_seats_of [here] = some (stD sd') ∧ Rdy ns cs rest ∧
        (b = true ↔ ∃ g, Chain ns mf (lk sd') rest g ∧ Stl ns mf g)) (R := fun d _ => d = .bl b) ?_ ⟨h0, rows, sd, none, rfl, rfl, S, hs0, hr, hb⟩ ?_ ?_
    · rintro x xs ρ _ ⟨here, rest, sd', x5, e2, rfl, S', hs', hr', hb'⟩
      cases rest with
      | nil => cases e2
      | cons ps rest =>
        cases e2
        refine ⟨_, rfl, ?_⟩
        obtain ⟨hne, hpl, hps⟩ := hr' ps List.mem_cons_self
        obtain ⟨⟨t0, c0⟩, r, rfl⟩ : ∃ p r, ps = p :: r := by
          cases ps with
          | nil => exact absurd rfl hne
          | cons p r => exact ⟨p, r, rfl⟩
        obtain ⟨b1, e1, h1⟩ := is_shift_ok I S' B hs' hps (by simp at hpl; omega)
        unfold wayD at e1
        cases b1 with
        | false =>
          simp [e1]
          cases b with
          | false => rfl
          | true =>
            obtain ⟨g, hc, _⟩ := hb'.mp rfl
            exact nomatch h1.mpr ((shift_iff S'.va).mpr hc).1
        | true =>
          have hcnd := h1.mp rfl
          obtain ⟨t', c', s⟩ := (cnd_iff S'.va).mp hcnd
          have hsl := S'.len I
          have he := shifted_eq (seating := here) S' hs' hne (by omega)
          have S2 := s.sea S'
          have hs2 := seat_pr S2.nd (Nat.le_trans (S2.len I) (by decide))
          have hlk := Shf.lk (mf := mf) (ps := (t0, c0) :: r) S'
          unfold wayD at he
          simp [e1, he]
          refine ⟨_, rest, rfl, rfl, _, S2, hs2, fun p hp => hr' p (List.mem_cons_of_mem _ hp), ?_⟩
          rw [hb', hlk]
          constructor
          · rintro ⟨g, hc, hst⟩
            exact ⟨g, ((shift_iff S'.va).mpr hc).2, hst⟩
          · rintro ⟨g, hc, hst⟩
            exact ⟨g, (shift_iff S'.va).mp ⟨hcnd, hc⟩, hst⟩
    · rintro ρ' _ ⟨here, rest, sd', x5, e2, rfl, S', hs', hr', hb'⟩
      cases rest with
      | cons _ _ => cases e2
      | nil =>
        obtain ⟨b2, e3, h3⟩ := is_settled_ok I S' B hs'
        simp [e3]
        cases b with
        | true =>
          obtain ⟨g, hc, hst⟩ := hb'.mp rfl
          cases hc
          exact h3.mpr hst
        | false =>
          cases b2 with
          | false => rfl
          | true => exact (hb'.mpr ⟨_, .nil, h3.mp rfl⟩).symm
    · rintro d _ rfl
      rfl)
  rw [show G_is_settling [book, ready, seating, .tup (rows.map wayD)] = some d from e, q]
end
end MM
/-! Q15 -/
namespace MM
open PySem Q
@[simp] theorem isi_str (x : Str) : isiD ["str"] (.str x) = some (.bl true) := rfl
section
variable {ns : List Str} {mf : Str → List Str} {cs : List Str} {sd row : List (Str × Str)} {t : Str} {book ready seating web : D}
theorem law_shows_ok (I : Ins ns mf cs) (S : Sea ns mf sd) (hrow : row.map (·.1) = ns) (hm : G__law_may [web, .tup (row.map tp2)] = some (.dct (tbD ns mf))) {rows : List (List (Str × Str))} (hr : Rdy ns cs rows) :
    ∃ b, G__law_shows [web, .tup (row.map tp2), .tup (sd.map tp2), .tup (rows.map wayD)] = some (.bl b) ∧ (b = true ↔ ∃ g, Chain ns mf (lk sd) rows g ∧ Stl ns mf g) := by
  obtain ⟨b, hb⟩ := boolOf (∃ g, Chain ns mf (lk sd) rows g ∧ Stl ns mf g)
  refine ⟨b, ?_, hb⟩
  obtain ⟨d, e, q⟩ := G_of (n := 4) (m := 6) (F := F__law_shows) (ds := [web, .tup (row.map tp2), .tup (sd.map tp2), .tup (rows.map wayD)]) (Q := fun d => d = .bl b) rfl (by
    have hrl : row.length ≤ 8 := by
      have := congrArg List.length hrow
      rw [List.length_map] at this
      rw [this]
      exact I.few
    unfold tp2 at hm
    unfold F__law_shows
    simp [hm]
    refine W_for (fun xs ρ _ => ∃ (rest : List (List (Str × Str))) (sd' : List (Str × Str)) (x4 : Option SV), xs = rest.map wayD ∧ ρ = [some (.val web), some (.val (.tup (row.map tp2))), some (.val (.tup (sd.map tp2))), some (.val (.tup (rows.map wayD))), x4, some (.val (.dct (tbD ns mf))), some (.val (.tup (sd'.map tp2))), none, none, none] ∧ Sea ns mf sd' ∧ Rdy ns cs rest ∧
        (b = true ↔ ∃ g, Chain ns mf (lk sd') rest g ∧ Stl ns mf g)) (R := fun d _ => d = .bl b) ?_ ⟨rows, sd, none, rfl, rfl, S, hr, hb⟩ ?_ ?_
    · rintro x xs ρ _ ⟨rest, sd', x4, e2, rfl, S', hr', hb'⟩
      cases rest with
      | nil => cases e2
      | cons ps rest =>
        cases e2
        refine ⟨_, rfl, ?_⟩
        obtain ⟨hne, hpl, hps⟩ := hr' ps List.mem_cons_self
        have hwl := wstr_len ps
        simp
        rw [sml_of (by simp; omega), W_lft]
        refine W_comp (bd := bd1 7) D.str (fun _ => false) D.str (wstr ps) (fun x hx => ⟨_, rfl, ?_, fun z => nomatch z⟩) ?_
        · simp
        rw [List.filter_eq_nil_iff.mpr (fun _ _ => by simp)]
        have enil : eqD true (.lst (List.map D.str [])) (.lst []) = some (.bl false) := eqD_nil (ds := []) (k := 0) true (fun _ h => nomatch h) (by decide)
        refine W_lft' enil ?_
        obtain ⟨⟨t0, c0⟩, r, rfl⟩ : ∃ p r, ps = p :: r := by
          cases ps with
          | nil => exact absurd rfl hne
          | cons p r => exact ⟨p, r, rfl⟩
        obtain ⟨b1, e1, h1⟩ := law_is_ok I S' hrow hps (by simp at hpl; omega)
        unfold wayD tp2 at e1
        cases b1 with
        | false =>
          simp [e1]
          cases b with
          | false => rfl
          | true =>
            obtain ⟨g, hc, _⟩ := hb'.mp rfl
            exact nomatch h1.mpr ((shift_iff S'.va).mpr hc).1
        | true =>
          have hcnd := h1.mp rfl
          obtain ⟨t', c', s⟩ := (cnd_iff S'.va).mp hcnd
          have hsl := S'.len I
          have he := law_moved_eq (ps := (t0, c0) :: r) S'.nd (by omega)
          have S2 := s.sea S'
          have hlk := Shf.lk (mf := mf) (ps := (t0, c0) :: r) S'
          unfold wayD tp2 at he
          simp [e1, he]
          refine ⟨rest, rfl, _, rfl, S2, fun p hp => hr' p (List.mem_cons_of_mem _ hp), ?_⟩
          rw [hb', hlk]
          constructor
          · rintro ⟨g, hc, hst⟩
            exact ⟨g, ((shift_iff S'.va).mpr hc).2, hst⟩
          · rintro ⟨g, hc, hst⟩
            exact ⟨g, (shift_iff S'.va).mp ⟨hcnd, hc⟩, hst⟩
    · rintro ρ' _ ⟨rest, sd', x4, e2, rfl, S', hr', hb'⟩
      cases rest with
      | cons _ _ => cases e2
      | nil =>
        simp
        rw [sml_of (by simp; omega), W_lft]
        obtain ⟨gd, hgd⟩ : ∃ gd : Str → Bool, ∀ t ∈ ns, (gd t = true ↔ ∃ ps c, Shf ns mf (lk sd') t ps c) := ⟨fun t => @decide (∃ ps c, Shf ns mf (lk sd') t ps c) (Classical.propDecidable _), fun t _ => @decide_eq_true_iff _ (Classical.propDecidable _)⟩
        refine W_comp (bd := bd2 8 9) tp2 (fun p => gd p.1) (fun p => D.str p.1) row (fun p hp => ⟨_, rfl, ?_, fun _ => ?_⟩) ?_
        · have hpn : p.1 ∈ ns := by rw [← hrow]; exact List.mem_map.mpr ⟨p, hp, rfl⟩
          obtain ⟨ways, e4, h4, h5, h6⟩ := law_shifts_ok (row := row) I S' hrow hpn
          have hnil := eqD_nil (ds := ways.map wayD) (k := 1) true (fun d hd => by
            obtain ⟨ps, hps, rfl⟩ := List.mem_map.mp hd
            obtain ⟨c, hc⟩ := h4 ps hps
            exact pd_way I (pth_in I S' hpn hc.2.2.1)) (by decide)
          unfold tp2 at e4
          simp at hnil
          simp [e4, hnil]
          cases ways with
          | nil =>
            have : gd p.1 = false := Bool.eq_false_iff.mpr fun z => by
              obtain ⟨ps, c, hc⟩ := (hgd p.1 hpn).mp z
              exact nomatch h5 ps c hc
            simp [this]
          | cons w ws =>
            have : gd p.1 = true := (hgd p.1 hpn).mpr ⟨w, h4 w List.mem_cons_self⟩
            simp [this]
        · simp
        have hfin := eqD_nil (ds := (row.filter fun p => gd p.1).map fun p => D.str p.1) (k := 0) false (fun d hd => by
          obtain ⟨p, hp, rfl⟩ := List.mem_map.mp hd
          exact pd_str (I.sok _ (.inl (by rw [← hrow]; exact List.mem_map.mpr ⟨p, (List.mem_filter.mp hp).1, rfl⟩)))) (by decide)
        refine W_lft' hfin ?_
        have key : ((row.filter fun p => gd p.1).map fun p => D.str p.1).isEmpty = true ↔ b = true := by
          rw [hb', List.isEmpty_iff, List.map_eq_nil_iff, List.filter_eq_nil_iff]
          constructor
          · intro h
            refine ⟨_, .nil, fun t ht w c hc => Bool.eq_false_iff.mpr fun z => ?_⟩
            obtain ⟨ps, hps⟩ := hc.pth
            rw [← hrow] at ht
            obtain ⟨p, hp, rfl⟩ := List.mem_map.mp ht
            rw [hrow] at ht
            exact h p hp ((hgd p.1 ht).mpr ⟨ps, c, ht, w, hps, z⟩)
          · rintro ⟨g, hc, hst⟩ p hp z
            cases hc
            have hpn : p.1 ∈ ns := by rw [← hrow]; exact List.mem_map.mpr ⟨p, hp, rfl⟩
            obtain ⟨ps, c, s⟩ := (hgd p.1 hpn).mp z
            have := hst p.1 hpn s.2.1 c s.2.2.1.rch
            rw [s.2.2.2] at this
            cases this
        show D.bl (if false = true then _ else ((row.filter fun p => gd p.1).map fun p => D.str p.1).isEmpty) = D.bl b
        rw [if_neg Bool.false_ne_true, Bool.eq_iff_iff.mpr key]
    · rintro d _ rfl
      rfl)
  rw [show G__law_shows [web, .tup (row.map tp2), .tup (sd.map tp2), .tup (rows.map wayD)] = some d from e, q]
end
end MM
/-! Q16 -/
namespace MM
open PySem Q
/-- a way of seat_more: (cpu, mover) pairs -/
abbrev tp2r (p : Str × Str) : D := .tup [.str p.2, .str p.1]
abbrev smD (x : Str × List (Str × Str)) : D := .tup [.str x.1, .tup (x.2.map tp2r)]
def InS (ps : List (Str × Str)) (seen : List Str) : Prop := ∀ d ∈ ps.map (·.2), d ∈ seen
section
variable {ns : List Str} {mf : Str → List Str} {cs : List Str} {sd row : List (Str × Str)} {t : Str} {book ready seating web : D}
structure MJ (mf : Str → List Str) (cs : List Str) (f : Str → Option Str) (t mo : Str) (rest seen : List Str) (q : List (Str × List (Str × Str))) (B : Nat) : Prop where
  r : RJ mf cs f t mo rest seen (q.map (·.1)) B
  qi : ∀ x ∈ q, (x.2 = [] ∧ x.1 = t) ∨ ∃ c, Pth mf f t x.2 c ∧ f c = some x.1 ∧ ∀ d ∈ x.2.map (·.2), d ∈ seen
  occ : ∀ c ∈ seen, ∃ m, f c = some m
theorem MJ.old {f : Str → Option Str} {mo c : Str} {rest seen : List Str} {q : List (Str × List (Str × Str))} {B : Nat} (h : MJ mf cs f t mo (c :: rest) seen q B) (hc : c ∈ seen) : MJ mf cs f t mo rest seen q B := ⟨h.r.old hc, h.qi, h.occ⟩
theorem MJ.new {f : Str → Option Str} {mo c m : Str} {rest seen : List Str} {q : List (Str × List (Str × Str))} {B : Nat} {ps : List (Str × Str)} (h : MJ mf cs f t mo (c :: rest) seen q B) (hc : c ∉ seen) (e : f c = some m) (hp : Pth mf f t ps c) (hs : ∀ d ∈ ps.map (·.2), d ∈ seen ++ [c]) :
    MJ mf cs f t mo rest (seen ++ [c]) (q ++ [(m, ps)]) B := by
  have r := h.r.new hc hp.rch
  rw [e] at r
  refine ⟨by simpa using r, fun x hx => ?_, fun x hx => ?_⟩
  · rcases List.mem_append.mp hx with hx | hx
    · exact (h.qi x hx).imp id fun ⟨d, a, b, k⟩ => ⟨d, a, b, fun y hy => List.mem_append_left _ (k y hy)⟩
    · rw [List.mem_singleton.mp hx]
      exact .inr ⟨c, hp, e, hs⟩
  · rcases List.mem_append.mp hx with hx | hx
    · exact h.occ x hx
    · rw [List.mem_singleton.mp hx]; exact ⟨m, e⟩
theorem seat_more_ok (I : Ins ns mf cs) (S : Sea ns mf sd) (ht : t ∈ ns) : ∃ d, G_seat_more [.dct (tbD ns mf), .dct (stD sd), .str t] = some d ∧
    ((d = .non ∧ ∃ R : List Str, R.Nodup ∧ (∀ c ∈ R, ∃ m, lk sd c = some m) ∧ (∀ c ∈ mf t, c ∈ R) ∧ ∀ c ∈ R, ∀ m, lk sd c = some m → ∀ y ∈ mf m, y ∈ R) ∨ ∃ ps c, d = .dct (stD (putAll sd ps)) ∧ Pth mf (lk sd) t ps c ∧ lk sd c = none) := by
  obtain ⟨Q, hQ⟩ : ∃ Q : D → Prop, Q = fun (d : D) => ((d = .non ∧ ∃ R : List Str, R.Nodup ∧ (∀ c ∈ R, ∃ m, lk sd c = some m) ∧ (∀ c ∈ mf t, c ∈ R) ∧ ∀ c ∈ R, ∀ m, lk sd c = some m → ∀ y ∈ mf m, y ∈ R) ∨ ∃ ps c, d = .dct (stD (putAll sd ps)) ∧ Pth mf (lk sd) t ps c ∧ lk sd c = none) := ⟨_, rfl⟩
  have key := G_of (n := 3) (m := 9) (F := F_seat_more) (ds := [.dct (tbD ns mf), .dct (stD sd), .str t]) (Q := Q) rfl ?_
  · obtain ⟨d, e, q⟩ := key
    rw [hQ] at q
    exact ⟨d, e, q⟩
  obtain ⟨RQ, hRQ⟩ : ∃ RQ : D → Prop, RQ = fun (d : D) => ∃ ps c, d = .dct (stD (putAll sd ps)) ∧ Pth mf (lk sd) t ps c ∧ lk sd c = none := ⟨_, rfl⟩
  unfold F_seat_more
  simp [sml]
  refine W_while (fun m ρ _ => ∃ (q : List (Str × List (Str × Str))) (seen : List Str) (x5 x6 x7 x8 x9 x10 x11 : Option SV), ρ = [some (.val (.dct (tbD ns mf))), some (.val (.dct (stD sd))), some (.val (.str t)), some (.ol (q.map smD)), some (.ol (seen.map D.str)), x5, x6, x7, x8, x9, x10, x11] ∧ m ≤ 5 ∧ MJ mf cs (lk sd) t t [] seen q m)
    (Qn := fun _ _ => ∃ R : List Str, R.Nodup ∧ (∀ c ∈ R, ∃ m, lk sd c = some m) ∧ (∀ c ∈ mf t, c ∈ R) ∧ ∀ c ∈ R, ∀ m, lk sd c = some m → ∀ y ∈ mf m, y ∈ R) (R := fun d _ => RQ d) ?_ (m := cs.length + 1) ⟨[(t, [])], [], none, none, none, none, none, none, none, rfl, by have := I.cfew; omega, ?_⟩ ?_ ?_ ?_
  · rintro m ρ _ ⟨q, seen, x5, x6, x7, x8, x9, x10, x11, rfl, hm5, J⟩
    cases q with
    | nil =>
      obtain ⟨h1, h2, h3, h4, h5⟩ := J.r
      simp
      refine ⟨seen, h1, J.occ, fun c hc => ?_, fun c hc m e y hy => ?_⟩
      · exact ((h4 t (.inl rfl)).resolve_left (fun z => nomatch z) c hc).resolve_right fun z => nomatch z.2
      · exact ((h4 m (.inr ⟨c, hc, e⟩)).resolve_left (fun z => nomatch z) y hy).resolve_right fun z => nomatch z.2
    | cons x0 q =>
      obtain ⟨mo, ps0⟩ := x0
      have hmo : mo = t ∨ ∃ c ∈ seen, lk sd c = some mo := J.r.2.2.1 mo (by simp)
      have hns : mo ∈ ns := by
        rcases hmo with h | ⟨c, _, h⟩
        · rw [h]; exact ht
        · exact S.va.mem _ _ h
      simp [dget_tb hns, sort_strs (Nat.le_trans (I.mlen hns) (by decide))]
      have hm0 : q.length + 1 + cs.length ≤ m + seen.length := by
        have := J.r.2.2.2.2
        simpa using this
      have hfl : seen.length ≤ cs.length := sub_len J.r.1 fun c hc => I.rch S ht (J.r.2.1 c hc)
      have J0 : MJ mf cs (lk sd) t mo (srt (mf mo)) seen q (m - 1) := by
        refine ⟨⟨J.r.1, J.r.2.1, fun k hk => J.r.2.2.1 k (by simp; exact .inr (by simpa using hk)), fun k hk => ?_, by simp; omega⟩, fun x hx => J.qi x (List.mem_cons_of_mem _ hx), J.occ⟩
        rcases J.r.2.2.2.1 k hk with z | z
        · rw [List.map_cons] at z
          rcases List.mem_cons.mp z with rfl | z
          · exact .inr fun d hd => .inr ⟨rfl, (srt_perm _).mem_iff.mpr hd⟩
          · exact .inl z
        · exact .inr fun d hd => (z d hd).imp id fun q => nomatch q.2
      have hps0 : ∀ d ∈ ps0.map (·.2), d ∈ seen := by
        rcases J.qi _ List.mem_cons_self with ⟨z, _⟩ | ⟨c, _, _, k⟩
        · have z : ps0 = [] := z
          rw [z]; exact fun _ h => nomatch h
        · exact k
      have hext : ∀ c ∈ mf mo, c ∉ ps0.map (·.2) → Pth mf (lk sd) t (ps0 ++ [(mo, c)]) c := fun c hc hn => by
        rcases J.qi _ List.mem_cons_self with ⟨z1, z2⟩ | ⟨c', hp, e, _⟩
        · have z1 : ps0 = [] := z1
          have z2 : mo = t := z2
          rw [z1, z2]; rw [z2] at hc; exact .one hc
        · exact .ext hp e hc hn
      have hpl0 : ps0.length ≤ 4 := by
        rcases J.qi _ List.mem_cons_self with ⟨z1, z2⟩ | ⟨c', hp, e, _⟩
        · have z1 : ps0 = [] := z1
          rw [z1]; simp
        · exact pth_len I S ht hp
      refine W_for (fun xs ρ _ => ∃ (rest seen : List Str) (q : List (Str × List (Str × Str))) (x5 x8 x9 x10 x11 : Option SV), xs = rest.map D.str ∧ ρ = [some (.val (.dct (tbD ns mf))), some (.val (.dct (stD sd))), some (.val (.str t)), some (.ol (q.map smD)), some (.ol (seen.map D.str)), x5, some (.val (.str mo)), some (.val (.tup (ps0.map tp2r))), x8, x9, x10, x11] ∧
          (∀ c ∈ rest, c ∈ mf mo) ∧ InS ps0 seen ∧ MJ mf cs (lk sd) t mo rest seen q (m - 1)) (R := fun d _ => RQ d) ?_ ⟨_, _, _, _, _, _, _, _, rfl, rfl, fun c hc => (srt_perm _).mem_iff.mp hc, hps0, J0⟩ ?_ ?_
      · rintro x xs ρ _ ⟨rest, seen, q, x5, x8, x9, x10, x11, e, rfl, hs, hp0, J⟩
        cases rest with
        | nil => cases e
        | cons c rest =>
          cases e
          refine ⟨_, rfl, ?_⟩
          have hsl : seen.length ≤ cs.length := sub_len J.r.1 fun c hc => I.rch S ht (J.r.2.1 c hc)
          have hcs := I.cfew
          by_cases hc : c ∈ seen
          · simp [any_mem, hc]
            exact ⟨rest, rfl, seen, q, ⟨rfl, rfl⟩, fun x hx => hs x (List.mem_cons_of_mem _ hx), hp0, J.old hc⟩
          · have hcm := hs c List.mem_cons_self
            have hncp : c ∉ ps0.map (·.2) := fun z => hc (hp0 c z)
            have hp := hext c hcm hncp
            have hl : seen.length ≤ 100000 := by omega
            have hql : q.length ≤ 1000 := by have := J.r.2.2.2.2; simp at this; omega
            have hlong : sml (ps0.map tp2r ++ [tp2r (mo, c)]) = some ((ps0 ++ [(mo, c)]).map tp2r) := by
              rw [sml_of (by simp; omega)]
              simp
            unfold tp2r at hlong
            cases e : lk sd c with
            | some k =>
              simp [any_mem, hc, appE, hl, e, hlong, hql, sml]
              rw [if_pos (by omega), W_lft, if_pos (by omega), W_lft]
              have hin : ∀ d ∈ (ps0 ++ [(mo, c)]).map (·.2), d ∈ seen ++ [c] := fun d hd => by
                rw [List.map_append, List.mem_append] at hd
                rcases hd with hd | hd
                · exact List.mem_append_left _ (hp0 d hd)
                · exact List.mem_append_right _ hd
              exact ⟨rest, rfl, seen ++ [c], q ++ [(k, ps0 ++ [(mo, c)])], ⟨_, _, _, _, _, by simp; exact ⟨rfl, rfl, rfl, rfl, rfl⟩⟩, fun x hx => hs x (List.mem_cons_of_mem _ hx), fun d hd => List.mem_append_left _ (hp0 d hd), J.new hc e hp hin⟩
            | none =>
              simp [any_mem, hc, appE, hl, e, hlong, sml]
              rw [if_pos (by omega), W_lft]
              have eps : ps0.map tp2r ++ [.tup [.str c, .str mo]] = (ps0 ++ [(mo, c)]).map tp2r := by simp
              rw [eps]
              have hsl4 := S.len I
              refine W_for (fun xs ρ _ => ∃ (done rest' : List (Str × Str)) (y0 y1 y2 y3 y4 y5 y6 y7 y8 : Option SV) (y10 y11 : Option SV), ps0 ++ [(mo, c)] = done ++ rest' ∧ xs = rest'.map tp2r ∧ ρ = [y0, y1, y2, y3, y4, y5, y6, y7, y8, some (.od (stD (putAll sd done))), y10, y11]) (R := fun _ _ => False) ?_ ⟨[], _, _, _, _, _, _, _, _, _, _, _, _, rfl, rfl, rfl⟩ ?_ ?_
              · rintro x xs ρ _ ⟨done, rest', y0, y1, y2, y3, y4, y5, y6, y7, y8, y10, y11, e1, e2, rfl⟩
                cases rest' with
                | nil => cases e2
                | cons p rest' =>
                  cases e2
                  have hln := putAll_len done sd
                  have hdl : (stD (putAll sd done)).length ≤ 100000 := by
                    have := congrArg List.length e1
                    unfold stD
                    simp at this ⊢
                    omega
                  refine ⟨_, rfl, ?_⟩
                  simp [putE, hdl, dput_st]
                  refine ⟨done ++ [p], rest', by rw [e1]; simp, rfl, ?_⟩
                  unfold putAll
                  rw [List.foldl_append]
                  rfl
              · rintro ρ' _ ⟨done, rest', y0, y1, y2, y3, y4, y5, y6, y7, y8, y10, y11, e1, e2, rfl⟩
                cases rest' with
                | cons _ _ => cases e2
                | nil =>
                  rw [List.append_nil] at e1
                  simp
                  rw [hRQ]
                  exact ⟨done, c, rfl, by rw [← e1]; exact hp, e⟩
              · exact fun _ _ z => False.elim z
      · rintro ρ' _ ⟨rest, seen, q, x5, x8, x9, x10, x11, e, rfl, hs, hp0, J⟩
        cases rest with
        | cons _ _ => cases e
        | nil =>
          refine ⟨m - 1, by omega, q, seen, ⟨_, _, _, _, _, _, _, rfl⟩, by omega, ⟨⟨J.r.1, J.r.2.1, J.r.2.2.1, fun k hk => (J.r.2.2.2.1 k hk).imp id fun z d hd => .inl ((z d hd).resolve_right fun y => nomatch y.2), J.r.2.2.2.2⟩, J.qi, J.occ⟩⟩
      · exact fun d _ z => z
  · refine ⟨⟨List.nodup_nil, (fun _ h => nomatch h), fun m hm => .inl (by simpa using hm), fun m hm => ?_, by simp; omega⟩, fun x hx => ?_, (fun _ h => nomatch h)⟩
    · rcases hm with rfl | ⟨c, hc, _⟩
      · exact .inl (by simp)
      · cases hc
    · rw [List.mem_singleton.mp hx]
      exact .inl ⟨rfl, rfl⟩
  · have := I.cfew; omega
  · intro ρ' _ h
    simp
    rw [hQ]
    exact .inl ⟨rfl, h⟩
  · intro d _ h
    show Q d
    rw [hRQ] at h
    rw [hQ]
    exact .inr h
end
end MM
/-! Q17 -/
namespace MM
open PySem Q
theorem srt_eq {xs ys : List Str} (h : xs.Perm ys) : srt xs = srt ys := by
  have tr : ∀ a b c : Str, (!ltS b a) = true → (!ltS c b) = true → (!ltS c a) = true := fun a b c h1 h2 => by
    cases e : ltS c a with
    | false => rfl
    | true =>
      have h1 : ltS b a = false := by simpa using h1
      have h2 : ltS c b = false := by simpa using h2
      by_cases q : b = a
      · rw [q, e] at h2; cases h2
      · rw [ltS_trans e (ltS_tri q h1)] at h2; cases h2
  have tt : ∀ a b : Str, (!ltS b a) = true ∨ (!ltS a b) = true := fun a b => by
    cases e : ltS b a with
    | false => exact .inl rfl
    | true => rw [ltS_asym e]; exact .inr rfl
  refine sorted_uniq ((srt_perm xs).trans (h.trans (srt_perm ys).symm)) (isort_sorted tr tt xs) (isort_sorted tr tt ys) fun a _ b _ h1 h2 => ?_
  have h1 : ltS b a = false := by simpa using h1
  have h2 : ltS a b = false := by simpa using h2
  by_cases q : a = b
  · exact q
  · rw [ltS_tri q h2] at h1; cases h1
theorem perm_of {xs ys : List Str} (h1 : xs.Nodup) (h2 : ys.Nodup) (h : ∀ x, x ∈ xs ↔ x ∈ ys) : xs.Perm ys := (List.perm_ext_iff_of_nodup h1 h2).mpr h
section
variable {ns : List Str} {mf : Str → List Str} {cs : List Str} {sd row : List (Str × Str)} {t : Str} {book ready seating web : D}
theorem vals_nd (S : Sea ns mf sd) : (sd.map (·.2)).Nodup := by
  have h : ∀ l : List (Str × Str), (∀ p ∈ l, p ∈ sd) → (l.map (·.1)).Nodup → (l.map (·.2)).Nodup := by
    intro l
    induction l with
    | nil => intro _ _; exact List.nodup_nil
    | cons p l ih =>
      intro hm nd
      rw [List.map_cons, List.nodup_cons] at nd ⊢
      refine ⟨fun z => ?_, ih (fun q hq => hm q (List.mem_cons_of_mem _ hq)) nd.2⟩
      obtain ⟨q, hq, e⟩ := List.mem_map.mp z
      have h1 := mem_lk (c := p.1) (m := p.2) S.nd (hm p List.mem_cons_self)
      have h2 := mem_lk (c := q.1) (m := q.2) S.nd (hm q (List.mem_cons_of_mem _ hq))
      rw [e] at h2
      exact nd.1 (List.mem_map.mpr ⟨q, hq, S.va.inj _ _ _ h2 h1⟩)
  exact h sd (fun _ h => h) S.nd
/-- each task runs or is shut out by better ones that run -/
def Tgt (ns : List Str) (mf : Str → List Str) (f : Str → Option Str) : Prop := ∀ t ∈ ns, Run f t ∨ Blk mf (ix ns) (Run f) t
theorem stl_tgt (I : Ins ns mf cs) (S : Sea ns mf sd) (h : Stl ns mf (lk sd)) : Tgt ns mf (lk sd) := fun t ht => by
  by_cases r : Run (lk sd) t
  · exact .inl r
  · obtain ⟨R, _, nd, hR⟩ := reach_ok I S ht
    refine .inr (blk_of nd S.va.inj (fun c hc => ?_) (fun c hc => (hR c).mpr (.one hc)) fun c hc m e d hd => (hR d).mpr (.ext ((hR c).mp hc) e hd))
    have := h t ht r c ((hR c).mp hc)
    unfold endB at this
    cases e : lk sd c with
    | none => rw [e] at this; cases this
    | some m =>
      rw [e] at this
      have le : ¬ ix ns t < ix ns m := of_decide_eq_false this
      refine ⟨m, rfl, Nat.lt_of_le_of_ne (Nat.not_lt.mp le) fun z => r ⟨c, ?_⟩⟩
      rw [e, ix_inj (S.va.mem _ _ e) ht z]
theorem seat_all_ok (I : Ins ns mf cs) (B : Bk book ready ns mf) : ∃ sd, G_seat_all [book, ready] = some (.dct (stD sd)) ∧ Sea ns mf sd ∧ Tgt ns mf (lk sd) := by
  have key := G_of (n := 2) (m := 4) (F := F_seat_all) (ds := [book, ready]) (Q := fun d => ∃ sd, d = .dct (stD sd) ∧ Sea ns mf sd ∧ Tgt ns mf (lk sd)) rfl ?_
  · obtain ⟨d, e, sd, rfl, h⟩ := key
    exact ⟨sd, e, h⟩
  have ht' := B.tasks
  unfold sL at ht'
  unfold F_seat_all
  simp [ht', B.may]
  refine W_for (fun xs ρ _ => ∃ (done rest : List Str) (sd : List (Str × Str)) (x2 x5 : Option SV), ns = done ++ rest ∧ xs = rest.map D.str ∧ ρ = [some (.val book), some (.val ready), x2, some (.val (.dct (tbD ns mf))), some (.val (.dct (stD sd))), x5] ∧ Sea ns mf sd ∧ (∀ m, Run (lk sd) m → m ∈ done) ∧
      ∀ t ∈ done, Run (lk sd) t ∨ Blk mf (ix ns) (Run (lk sd)) t) (R := fun _ _ => False) ?_ ⟨[], ns, [], none, none, rfl, rfl, rfl, ⟨List.nodup_nil, ⟨(fun _ _ h => nomatch h), (fun _ _ h => nomatch h), (fun _ _ _ h => nomatch h)⟩⟩, (fun m ⟨c, h⟩ => nomatch h), (fun _ h => nomatch h)⟩ ?_ ?_
  · rintro x xs ρ _ ⟨done, rest, sd, x2, x5, en, e, rfl, S, hd, hb⟩
    cases rest with
    | nil => cases e
    | cons t rest =>
      cases e
      have ht : t ∈ ns := by rw [en]; simp
      have htd : t ∉ done := fun z => by
        have nd := I.nd
        rw [en, List.nodup_append] at nd
        exact nd.2.2 t z t List.mem_cons_self rfl
      have hlt : ∀ m ∈ done, ix ns m < ix ns t := fun m hm => by rw [en]; exact ix_split htd hm
      refine ⟨_, rfl, ?_⟩
      obtain ⟨d, e, q⟩ := seat_more_ok I S ht
      rcases q with ⟨rfl, R, nd, h1, h2, h3⟩ | ⟨ps, c, rfl, hp, hc⟩
      · simp [e, isNon]
        refine ⟨done ++ [t], rest, by rw [en]; simp, rfl, sd, rfl, S, fun m hm => List.mem_append_left _ (hd m hm), fun u hu => ?_⟩
        rcases List.mem_append.mp hu with hu | hu
        · exact hb u hu
        · rw [List.mem_singleton.mp hu]
          refine .inr (blk_of nd S.va.inj (fun c hc => ?_) h2 h3)
          obtain ⟨m, e⟩ := h1 c hc
          exact ⟨m, e, hlt m (hd m ⟨c, e⟩)⟩
      · simp [e, isNon]
        have w : ¬ Run (lk sd) t := fun z => htd (hd t z)
        have hrun := (hp.moved S.va.ok S.va.inj w).2.1
        have hva := hp.va S.va w ht
        have hrun' : ∀ m, Run (lk (putAll sd ps)) m ↔ m = t ∨ Run (lk sd) m := fun m => by
          rw [putAll_lk, hrun m, hc]
          simp
        refine ⟨done ++ [t], rest, by rw [en]; simp, rfl, putAll sd ps, rfl, ⟨putAll_nodup ps S.nd, by rw [putAll_lk]; exact hva⟩, fun m hm => ?_, fun u hu => ?_⟩
        · rcases (hrun' m).mp hm with rfl | hm
          · simp
          · exact List.mem_append_left _ (hd m hm)
        · rcases List.mem_append.mp hu with hu | hu
          · exact (hb u hu).imp (fun z => (hrun' u).mpr (.inr z)) (Blk.imp fun x hx => (hrun' x).mpr (.inr hx))
          · rw [List.mem_singleton.mp hu]
            exact .inl ((hrun' t).mpr (.inl rfl))
  · rintro ρ _ ⟨done, rest, sd, x2, x5, en, e, rfl, S, hd, hb⟩
    cases rest with
    | cons _ _ => cases e
    | nil =>
      rw [List.append_nil] at en
      simp
      exact ⟨sd, rfl, S, fun t ht => hb t (by rw [← en]; exact ht)⟩
  · exact fun _ _ z => False.elim z
/-- the ideal is who runs where nobody can move -/
theorem ideal_ok (I : Ins ns mf cs) (B : Bk book ready ns mf) (S : Sea ns mf sd) (h : Stl ns mf (lk sd)) : G_ideal [book, ready] = some (sT (srt (sd.map (·.2)))) := by
  obtain ⟨sd', e, S', h'⟩ := seat_all_ok I B
  obtain ⟨d, e2, q⟩ := G_of (n := 2) (m := 0) (F := F_ideal) (ds := [book, ready]) (Q := fun d => d = sT (srt (sd'.map (·.2)))) rfl (by
    have hl := S'.len I
    unfold F_ideal
    have hs := sort_strs (xs := sd'.map (·.2)) (by rw [List.length_map]; omega)
    simp at hs
    simp [e, hs])
  rw [show G_ideal [book, ready] = some d from e2, q]
  have key : srt (sd'.map (·.2)) = srt (sd.map (·.2)) := srt_eq (perm_of (vals_nd S') (vals_nd S) fun x => ?_)
  · rw [key]
  rw [run_vals S'.nd, run_vals S.nd]
  exact tight_eq S'.va S.va h' (stl_tgt I S h) _ x rfl
end
end MM
/-! Q18 -/
namespace MM
open PySem Q
/-! ### the same task in another writing: the same answers -/
def fstW (bw : Str → D) : List Str → D
  | [] => .non
  | t :: r => if isNon (bw t) = true then fstW bw r else bw t
inductive Trc (ns : List Str) (mf : Str → List Str) (nx : D → Option D) : D → List D → Prop
  | nil {h : D} {sd : List (Str × Str)} : Sea ns mf sd → GK_seats_of [h] = some (stD sd) → nx h = some .non → Trc ns mf nx h []
  | cons {h h' w : D} {sd : List (Str × Str)} {ws : List D} : Sea ns mf sd → GK_seats_of [h] = some (stD sd) → nx h = some w → isNon w = false → G_shifted [h, w] = some h' → Trc ns mf nx h' ws → Trc ns mf nx h (w :: ws)
section
variable {ns : List Str} {mf : Str → List Str} {cs : List Str} {sd row : List (Str × Str)} {t : Str} {book ready seating web : D}
theorem Trc.det {nx : D → Option D} {h : D} {ws : List D} (a : Trc ns mf nx h ws) : ∀ {ws' : List D}, Trc ns mf nx h ws' → ws = ws' := by
  induction a with
  | nil _ _ e =>
    intro ws' b
    cases b with
    | nil => rfl
    | cons _ _ e2 n _ _ => rw [e] at e2; cases e2; cases n
  | cons _ _ e n s _ ih =>
    intro ws' b
    cases b with
    | nil _ _ e2 => rw [e] at e2; cases e2; cases n
    | cons _ _ e2 n2 s2 r =>
      rw [e] at e2
      cases e2
      rw [s] at s2
      cases s2
      rw [ih r]
theorem Trc.same {nx nx' : D → Option D} {h : D} {ws : List D} (q : ∀ h sd, Sea ns mf sd → GK_seats_of [h] = some (stD sd) → nx h = nx' h) (a : Trc ns mf nx h ws) : Trc ns mf nx' h ws := by
  induction a with
  | nil S e n => exact .nil S e (by rw [← q _ _ S e]; exact n)
  | cons S e n i s _ ih => exact .cons S e (by rw [← q _ _ S e]; exact n) i s ih
theorem best_same (I : Ins ns mf cs) (S : Sea ns mf sd) (ht : t ∈ ns) : ∃ d, ∀ book ready seating, Bk book ready ns mf → GK_seats_of [seating] = some (stD sd) → G_best_way [book, ready, seating, .str t, .bl true] = some d := by
  obtain ⟨L, eL, h1, h2⟩ := right_ends_ok I S ht
  obtain ⟨w, ew, hw⟩ := shortest_ok I S ht L
  unfold sL at eL ew
  by_cases r : Run (lk sd) t
  · refine ⟨.non, fun book ready seating B hs => ?_⟩
    have ht' := B.tasks
    unfold sL at ht'
    obtain ⟨d, e, q⟩ := G_of (n := 5) (m := 4) (F := F_best_way) (ds := [book, ready, seating, .str t, .bl true]) (Q := fun d => d = .non) rfl (by
      unfold F_best_way
      simp [check_task_eq B ht, B.may, ht', hs, wait_f S r])
    rw [show G_best_way [book, ready, seating, .str t, .bl true] = some d from e, q]
  · refine ⟨w, fun book ready seating B hs => ?_⟩
    have ht' := B.tasks
    unfold sL at ht'
    obtain ⟨d, e, q⟩ := G_of (n := 5) (m := 4) (F := F_best_way) (ds := [book, ready, seating, .str t, .bl true]) (Q := fun d => d = w) rfl (by
      unfold F_best_way
      simp [check_task_eq B ht, B.may, ht', hs, wait_t S r, eL, ew])
    rw [show G_best_way [book, ready, seating, .str t, .bl true] = some d from e, q]
theorem right_same (I : Ins ns mf cs) (S : Sea ns mf sd) (ht : t ∈ ns) : ∃ d, ∀ book ready seating, Bk book ready ns mf → GK_seats_of [seating] = some (stD sd) → G_a_right_shift [book, ready, seating, .str t] = some d := by
  obtain ⟨w, hw⟩ := best_same I S ht
  refine ⟨w, fun book ready seating B hs => ?_⟩
  have e := hw book ready seating B hs
  obtain ⟨d, e, q⟩ := G_of (n := 4) (m := 0) (F := F_a_right_shift) (ds := [book, ready, seating, .str t]) (Q := fun d => d = w) rfl (by
    unfold F_a_right_shift
    simp only [W_bnd, W_callP, sRet, cP, aC, aN, xV, cB, vV_get, W_lft, W_ret, List.map_cons, List.map_nil, List.cons_append, List.nil_append, List.replicate_zero, List.getElem?_cons_zero, List.getElem?_cons_succ]
    exact ⟨rfl, w, e, rfl⟩)
  rw [show G_a_right_shift [book, ready, seating, .str t] = some d from e, q]
theorem next_same (I : Ins ns mf cs) (S : Sea ns mf sd) : ∃ d, ∀ book ready seating, Bk book ready ns mf → GK_seats_of [seating] = some (stD sd) → G_next_shift [book, ready, seating] = some d := by
  have hb : ∀ t : Str, ∃ d, t ∈ ns → ∀ book ready seating, Bk book ready ns mf → GK_seats_of [seating] = some (stD sd) → G_a_right_shift [book, ready, seating, .str t] = some d := fun t => by
    by_cases ht : t ∈ ns
    · obtain ⟨d, hd⟩ := right_same I S ht
      exact ⟨d, fun _ => hd⟩
    · exact ⟨.non, fun z => absurd z ht⟩
  obtain ⟨bw, hbw⟩ := Classical.axiomOfChoice hb
  refine ⟨fstW bw ns, fun book ready seating B hs => ?_⟩
  have ht' := B.tasks
  unfold sL at ht'
  obtain ⟨d, e, q⟩ := G_of (n := 3) (m := 2) (F := F_next_shift) (ds := [book, ready, seating]) (Q := fun d => d = fstW bw ns) rfl (by
    unfold F_next_shift
    simp [ht']
    refine W_for (fun xs ρ _ => ∃ (rest : List Str) (x3 x4 : Option SV), xs = rest.map D.str ∧ ρ = [some (.val book), some (.val ready), some (.val seating), x3, x4] ∧ (∀ t ∈ rest, t ∈ ns) ∧ fstW bw rest = fstW bw ns)
      (R := fun d _ => d = fstW bw ns) ?_ ⟨ns, none, none, rfl, rfl, fun _ h => h, rfl⟩ ?_ ?_
    · rintro x xs ρ _ ⟨rest, x3, x4, e, rfl, h1, h2⟩
      cases rest with
      | nil => cases e
      | cons t rest =>
        cases e
        have e := hbw t (h1 t List.mem_cons_self) book ready seating B hs
        refine ⟨_, rfl, ?_⟩
        have h2 : (if isNon (bw t) = true then fstW bw rest else bw t) = fstW bw ns := h2
        by_cases n : isNon (bw t) = true
        · rw [if_pos n] at h2
          simp [e, n]
          exact ⟨rest, rfl, fun x hx => h1 x (List.mem_cons_of_mem _ hx), h2⟩
        · rw [if_neg n] at h2
          simp [e, n]
          exact h2
    · rintro ρ _ ⟨rest, x3, x4, e, rfl, h1, h2⟩
      cases rest with
      | cons _ _ => cases e
      | nil => simp; exact h2
    · rintro d _ h
      exact h)
  rw [show G_next_shift [book, ready, seating] = some d from e, q]
theorem settling_trc (I : Ins ns mf cs) (S : Sea ns mf sd) (B : Bk book ready ns mf) (hs : Seat seating sd) : ∃ rows g h0, G_settling [book, ready, seating] = some (.tup (rows.map wayD)) ∧ Chain ns mf (lk sd) rows g ∧ Stl ns mf g ∧ rows.length ≤ 300 ∧
    G_tupled 8 [seating] = some h0 ∧ Trc ns mf (fun h => G_next_shift [book, ready, h]) h0 (rows.map wayD) := by
  obtain ⟨h0, eh, hs0⟩ := hs.tup
  obtain ⟨Q, hQ⟩ : ∃ Q : D → Prop, Q = fun (d : D) => ∃ rows g, d = .tup (rows.map wayD) ∧ Chain ns mf (lk sd) rows g ∧ Stl ns mf g ∧ rows.length ≤ 300 ∧ Trc ns mf (fun h => G_next_shift [book, ready, h]) h0 (rows.map wayD) := ⟨_, rfl⟩
  have key := G_of (n := 3) (m := 3) (F := F_settling) (ds := [book, ready, seating]) (Q := Q) rfl ?_
  · obtain ⟨d, e, q⟩ := key
    rw [hQ] at q
    obtain ⟨rows, g, rfl, h1, h2, h3, h4⟩ := q
    exact ⟨rows, g, h0, e, h1, h2, h3, eh, h4⟩
  obtain ⟨w, ew, hw⟩ := next_shift_ok I S B hs0
  have hpow : 2 ^ ns.length ≤ 256 := Nat.le_trans (Nat.pow_le_pow_right (by decide) I.few) (by decide)
  have hvl := val_lt ns (lk sd)
  unfold F_settling
  simp [eh, ew]
  refine W_while (fun m ρ _ => ∃ (here way : D) (rows : List (List (Str × Str))) (sd' : List (Str × Str)), ρ = [some (.val book), some (.val ready), some (.val seating), some (.val way), some (.val here), some (.ol (rows.map wayD))] ∧ Sea ns mf sd' ∧ GK_seats_of [here] = some (stD sd') ∧ Chain ns mf (lk sd) rows (lk sd') ∧
      ((way = .non ∧ Stl ns mf (lk sd')) ∨ ∃ t ps c, way = wayD ps ∧ Shf ns mf (lk sd') t ps c) ∧ m + val ns (lk sd') = 2 ^ ns.length ∧ rows.length + m ≤ 256 ∧ G_next_shift [book, ready, here] = some way ∧
      ∀ ws, Trc ns mf (fun h => G_next_shift [book, ready, h]) here ws → Trc ns mf (fun h => G_next_shift [book, ready, h]) h0 (rows.map wayD ++ ws))
    (Qn := fun ρ _ => ∃ (x4 : Option SV) (rows : List (List (Str × Str))) (g : Str → Option Str), ρ[5]? = some (some (.ol (rows.map wayD))) ∧ Chain ns mf (lk sd) rows g ∧ Stl ns mf g ∧ rows.length ≤ 256 ∧ Trc ns mf (fun h => G_next_shift [book, ready, h]) h0 (rows.map wayD)) (R := fun _ _ => False) ?_ (m := 2 ^ ns.length - val ns (lk sd)) ⟨h0, w, [], sd, rfl, S, hs0, .nil, hw, by omega, by simp; omega, ew, fun _ h => h⟩ (by omega) ?_ ?_
  · rintro m ρ _ ⟨here, way, rows, sd', rfl, S', hs', hc, hw, hm, hrl, hnx, htr⟩
    rcases hw with ⟨rfl, hst⟩ | ⟨t, ps, c, rfl, s⟩
    · simp [isNon]
      have := htr [] (.nil S' hs' hnx)
      rw [List.append_nil] at this
      exact ⟨rows, rfl, _, hc, hst, by omega, this⟩
    · have hpl := pth_len I S' s.1 s.2.2.1
      have hsl := S'.len I
      have he := shifted_eq (seating := here) S' hs' (pth_ne s.2.2.1) (by omega)
      have S2 := s.sea S'
      have hl2 : (srtP (putAll sd' ps)).length ≤ 1000 := Nat.le_trans (S2.len I) (by decide)
      have hs2 := seat_pr S2.nd hl2
      have hlk := Shf.lk (mf := mf) (ps := ps) S'
      obtain ⟨w2, ew2, hw2⟩ := next_shift_ok I S2 B hs2
      have hup := val_up S'.va s I.nd
      rw [← hlk] at hup
      have hvl2 := val_lt ns (lk (srtP (putAll sd' ps)))
      have hrl2 : (rows.map wayD).length ≤ 100000 := by simp; omega
      have htr2 : ∀ ws, Trc ns mf (fun h => G_next_shift [book, ready, h]) (.tup ((srtP (putAll sd' ps)).map pr2)) ws → Trc ns mf (fun h => G_next_shift [book, ready, h]) h0 ((rows ++ [ps]).map wayD ++ ws) := fun ws h => by
        have := htr _ (.cons S' hs' hnx rfl he h)
        rw [List.map_append, List.append_assoc]
        exact this
      unfold wayD at he
      simp at hrl2
      simp [isNon, appE, hrl2, he, ew2]
      refine ⟨2 ^ ns.length - val ns (lk (srtP (putAll sd' ps))), by omega, _, w2, rows ++ [ps], ⟨rfl, rfl, by simp⟩, srtP (putAll sd' ps), S2, hs2, ?_, hw2.imp id (fun ⟨t, p, c, a, b⟩ => ⟨t, p, a, c, b⟩), by omega, by simp; omega, ew2, htr2⟩
      rw [hlk]
      exact hc.snoc s
  · rintro ρ' _ ⟨x4, rows, g, hρ, hc, hst, hl, htr⟩
    simp [hρ]
    rw [hQ]
    exact ⟨rows, g, rfl, hc, hst, by omega, htr⟩
  · exact fun _ _ z => False.elim z
/-- settling says the same, however book, ready and seating are written -/
theorem settling_same (I : Ins ns mf cs) (S : Sea ns mf sd) {book' ready' seating' : D} (B : Bk book ready ns mf) (B' : Bk book' ready' ns mf) (hs : Seat seating sd) (hs' : Seat seating' sd) (e : G_tupled 8 [seating] = G_tupled 8 [seating']) :
    G_settling [book, ready, seating] = G_settling [book', ready', seating'] := by
  obtain ⟨r1, g1, h1, a1, _, _, _, b1, c1⟩ := settling_trc I S B hs
  obtain ⟨r2, g2, h2, a2, _, _, _, b2, c2⟩ := settling_trc I S B' hs'
  rw [b1, b2] at e
  cases e
  rw [a1, a2]
  have := (c1.same (nx' := fun h => G_next_shift [book', ready', h]) fun h sd S hs => by
    obtain ⟨d, hd⟩ := next_same I S
    show G_next_shift [book, ready, h] = G_next_shift [book', ready', h]
    rw [hd _ _ _ B hs, hd _ _ _ B' hs]).det c2
  rw [this]
end
end MM
/-! Q19 -/
namespace MM
open PySem Q
/-! ### draws -/
/-- how often it was drawn: at most n times -/
def Tb (n : Nat) (t : Tub) : Prop := 0 ≤ t.2.2 ∧ t.2.2 ≤ (n : Int)
theorem Tb.mono {n m : Nat} {t : Tub} (h : Tb n t) (le : n ≤ m) : Tb m t := ⟨h.1, by have := h.2; omega⟩
@[simp] theorem W_tbG {i j : Nat} {ρ : Env} {t : Tub} {Q : D → Tub → Prop} : W (tbG i j ρ) t Q ↔ isTub i ρ = true ∧ Q (.int (tubN j t)) t := by
  unfold tbG W
  constructor
  · rintro ⟨a, t', e, q⟩
    split at e
    · next h => cases e; exact ⟨h, q⟩
    · cases e
  · rintro ⟨h, q⟩
    exact ⟨_, _, if_pos h, q⟩
@[simp] theorem W_tbS {i j : Nat} {f : FD Tub} {ρ : Env} {t : Tub} {Q : Out → Tub → Prop} : W (tbS i j f ρ) t Q ↔ W (f ρ) t fun d t' => ∃ z, d = .int z ∧ isTub i ρ = true ∧ Q (.nx ρ) (tubS j z t') := by
  unfold tbS
  rw [W_bnd]
  constructor
  · refine fun h => h.mono fun d t' ⟨a, t1, e, q⟩ => ?_
    cases d with
    | int z =>
      by_cases h : isTub i ρ = true
      · have e : (if isTub i ρ = true then some (Out.nx ρ, tubS j z t') else none) = some (a, t1) := e
        rw [if_pos h] at e
        cases e
        exact ⟨z, rfl, h, q⟩
      · have e : (if isTub i ρ = true then some (Out.nx ρ, tubS j z t') else none) = some (a, t1) := e
        rw [if_neg h] at e
        cases e
    | _ => cases e
  · refine fun h => h.mono fun d t' ⟨z, e, h, q⟩ => ?_
    subst e
    exact ⟨_, _, if_pos h, q⟩
theorem modI_ok {i j : Int} (h : 0 < j) : modI i j = some (i % j) := if_pos h
theorem fdivI_ok {i j : Int} (h : 0 < j) (h2 : j < 1073741824) : fdivI i j = some (i / j) := if_pos ⟨h, h2⟩
theorem mulI_l {i j : Int} (h : -(2 ^ 64) < i ∧ i < 2 ^ 64) : mulI i j = some (i * j) := if_pos (.inl h)
theorem mulI_r {i j : Int} (h : -(2 ^ 64) < j ∧ j < 2 ^ 64) : mulI i j = some (i * j) := if_pos (.inr h)
theorem nat_of {i top : Int} (h : 0 < top) : ∃ k : Nat, i % top = (k : Int) ∧ (k : Int) < top := by
  obtain ⟨k, hk⟩ := Int.eq_ofNat_of_zero_le (Int.emod_nonneg i (Int.ne_of_gt h))
  exact ⟨k, hk, by rw [← hk]; exact Int.emod_lt_of_pos i h⟩
theorem take_ok {t : Tub} {n : Nat} {top : Int} (h : Tb n t) (hn : n ≤ 1000000) (h1 : 0 < top) (h2 : top < 1073741824) {Q : D → Tub → Prop} (q : ∀ (i : Nat) t', (i : Int) < top → Tb (n + 1) t' → Q (.int i) t') : W (G__law_take [.tub, .int top]) t Q := by
  obtain ⟨a, b, c⟩ := t
  obtain ⟨c0, c1⟩ := h
  have c0 : 0 ≤ c := c0
  have c1 : c ≤ (n : Int) := c1
  refine runD_W (n := 2) (m := 4) rfl ?_
  unfold F__law_take
  have e1 : isTub 0 [some (.val .tub), some (.val (.int top)), none, none, none, none] = true := rfl
  simp only [W_seqS, W_sIf, W_tbG, W_tbS, W_bnd, W_lft, W_ret, List.map_cons, List.map_nil, List.cons_append, List.nil_append, List.replicate, List.getElem?_cons_zero, List.getElem?_cons_succ, tubN, tubS, sSet, sRet, sNil, tst, o2, o1, xB, xV, cI, iB_int, iI_int, asB_bl, intD, vB_get, vV_get, List.set_cons_zero, List.set_cons_succ]
  by_cases h0 : 0 < a
  · refine ⟨rfl, ?_⟩
    rw [decide_eq_true h0, if_pos rfl]
    obtain ⟨k, ek, hk⟩ := nat_of (i := a) h1
    simp [isTub, modI_ok h1, fdivI_ok h1 h2, ek]
    exact q k _ hk ⟨c0, by show c ≤ ((n + 1 : Nat) : Int); omega⟩
  · refine ⟨rfl, ?_⟩
    have hne : decide (0 < a) = false := decide_eq_false h0
    rw [hne]
    have m1 : ∀ x y : Int, 0 ≤ y → y ≤ 2000000 → mulI x (39373 + y) = some (x * (39373 + y)) := fun x y p1 p2 => mulI_r ⟨by omega, by omega⟩
    have m2 : ∀ x y : Int, mulI x (y % 40009 + 7) = some (x * (y % 40009 + 7)) := fun x y => mulI_r ⟨by omega, by omega⟩
    have m3 : ∀ x : Int, mulI 48271 x = some (48271 * x) := fun x => mulI_l ⟨by decide, by decide⟩
    have m4 : ∀ x : Int, mulI x 48271 = some (x * 48271) := fun x => mulI_r ⟨by decide, by decide⟩
    have m5 := fun x => m1 x (c + 1) (by omega) (by omega)
    have d1 : ∀ x, modI x 2147483647 = some (x % 2147483647) := fun x => modI_ok (by decide)
    have d2 : ∀ x, modI x 40009 = some (x % 40009) := fun x => modI_ok (by decide)
    have d3 : ∀ x, modI x 2147483629 = some (x % 2147483629) := fun x => modI_ok (by decide)
    have d4 : ∀ x, modI x 2147483587 = some (x % 2147483587) := fun x => modI_ok (by decide)
    have f1 : ∀ x, fdivI x 1000003 = some (x / 1000003) := fun x => fdivI_ok (by decide) (by decide)
    have f2 : ∀ x, fdivI x 64 = some (x / 64) := fun x => fdivI_ok (by decide) (by decide)
    have dt : ∀ x, modI x top = some (x % top) := fun x => modI_ok h1
    have key : ∀ x : Int, Q (.int (x % top)) (a, b, c + 1) := fun x => by
      obtain ⟨k, ek, hk⟩ := nat_of (i := x) h1
      rw [ek]
      exact q k _ hk ⟨by show 0 ≤ c + 1; omega, by show c + 1 ≤ ((n + 1 : Nat) : Int); omega⟩
    simp only [isTub, tubN, tubS, m3, m4, m5, m2, d1, d2, d3, d4, f1, f2, dt, W_lft, Option.map_some, Bool.false_eq_true, if_false, W_ret, W_bnd, List.getElem?_cons_zero, List.getElem?_cons_succ, List.set_cons_zero, List.set_cons_succ, W_seqS, asB_bl, intD, iI_int, W_tbG, W_tbS, iB_int, true_and, D.int.injEq, exists_eq_left', and_true]
    exact key _
end MM
/-! Q20 -/
namespace MM
open PySem Q
theorem of_ok {t : Tub} {n : Nat} {d : D} {ds : List D} (hs : seqOf d = some ds) (hd : lenD d = some (.int ds.length)) (ne : ds ≠ []) (hk : ds.length ≤ 100000) (h : Tb n t) (hn : n ≤ 1000000) {Q : D → Tub → Prop} (q : ∀ x t', x ∈ ds → Tb (n + 1) t' → Q x t') : W (G__law_of [.tub, d]) t Q := by
  refine runD_W (n := 2) (m := 0) rfl ?_
  have hp : 0 < ds.length := List.length_pos_iff.mpr ne
  unfold F__law_of
  simp [hd]
  refine take_ok h hn (by omega) (by omega) fun i t' hi ht => ?_
  have hi : i < ds.length := by omega
  have ei : idxL d (.int (i : Int)) = L2.atI ds (i : Int) := by
    have : idxL d (.int (i : Int)) = match seqOf d with
      | some ds => L2.atI ds (i : Int)
      | none => none := by cases d <;> rfl
    rw [this, hs]
  rw [ei, L2.atI_nat (List.getElem?_eq_getElem hi), W_lft]
  exact q _ t' (List.getElem_mem hi) ht
theorem er_map {f : Str → D} : ∀ (l : List Str) (m : Nat), (l.map f).eraseIdx m = (l.eraseIdx m).map f
  | [], _ => rfl
  | x :: l, 0 => rfl
  | x :: l, m + 1 => by
    rw [List.map_cons, List.eraseIdx_cons_succ, List.eraseIdx_cons_succ, er_map l m, List.map_cons]
theorem er_perm : ∀ {l : List Str} {m : Nat} {x : Str}, l[m]? = some x → (x :: l.eraseIdx m).Perm l
  | [], _, _, e => by simp at e
  | y :: l, 0, x, e => by
    simp at e
    subst e
    exact List.Perm.refl _
  | y :: l, m + 1, x, e => by
    rw [List.eraseIdx_cons_succ]
    exact (List.Perm.swap y x _).trans ((er_perm (by simpa using e)).cons y)
theorem pick_perm {ys left xs : List Str} {m : Nat} {x : Str} (h : (ys ++ left).Perm xs) (e : left[m]? = some x) : ((ys ++ [x]) ++ left.eraseIdx m).Perm xs := by
  refine List.Perm.trans ?_ h
  rw [List.append_assoc]
  exact (er_perm e).append_left ys
theorem pick_ok {t : Tub} {n : Nat} {xs : List Str} {k : Nat} (hl : xs.length ≤ 10) (h : Tb n t) (hn : n ≤ 900000) {Q : D → Tub → Prop} (q : ∀ (ys left : List Str) t', (ys ++ left).Perm xs → ys.length = min k xs.length → Tb (n + 10) t' → Q (sL ys) t') :
    W (G__law_pick [.tub, sL xs, .int k]) t Q := by
  refine runD_W (n := 3) (m := 3) rfl ?_
  unfold F__law_pick
  obtain ⟨z, hz, hz1⟩ : ∃ z : Nat, (if xs.length < k then (xs.length : Int) else (k : Int)) = (z : Int) ∧ z = min k xs.length := by
    refine ⟨min k xs.length, ?_, rfl⟩
    split <;> omega
  have hlen : ((xs.map D.str).length : Int) = (xs.length : Int) := by rw [List.length_map]
  simp
  rw [hz, if_pos (by omega), W_lft]
  refine W_for (fun xs0 ρ t => ∃ (ys left : List Str) (x3 : Option SV), ρ = [some (.val .tub), some (.val (sL xs)), some (.val (.int k)), x3, some (.ol (left.map D.str)), some (.ol (ys.map D.str))] ∧ (ys ++ left).Perm xs ∧ ys.length + xs0.length = z ∧ Tb (n + ys.length) t) (R := fun _ _ => False) ?_
    ⟨[], xs, none, rfl, List.Perm.refl _, by simp [rangeL], h⟩ ?_ ?_
  · rintro x0 xs0 ρ t ⟨ys, left, x3, rfl, hp, hc, ht⟩
    have hpl := hp.length_eq
    rw [List.length_append] at hpl
    have hc : ys.length + (xs0.length + 1) = z := hc
    refine ⟨_, rfl, ?_⟩
    simp
    refine take_ok ht (by omega) (by omega) (by omega) fun i t' hi ht' => ?_
    have hi : i < left.length := by omega
    have e1 : L2.ixN (left.map D.str).length (i : Int) = some i := by
      unfold L2.ixN
      rw [List.length_map, if_pos (by omega), if_pos (by omega)]
      simp
    have e2 : (left.map D.str)[i]? = some (D.str left[i]) := by rw [List.getElem?_map, List.getElem?_eq_getElem hi]; rfl
    unfold apopE
    simp only [List.getElem?_cons_succ, List.getElem?_cons_zero, e1, e2]
    rw [if_pos (by rw [List.length_map, List.length_map]; omega), W_lft]
    refine ⟨ys ++ [left[i]], left.eraseIdx i, ⟨_, by simp [er_map]; rfl⟩, pick_perm hp (List.getElem?_eq_getElem hi), by simp; omega, ht'.mono (by simp; omega)⟩
  · rintro ρ' t' ⟨ys, left, x3, rfl, hp, hc, ht⟩
    simp
    exact q ys left t' hp (by rw [← hz1]; simpa using hc) (ht.mono (by simp at hc; omega))
  · exact fun _ _ z => False.elim z
end MM
/-! Q21 -/
namespace MM
open PySem Q
/-! ### a drawn book, a drawn row, as data -/
abbrev kD (p : Str × List Str) : D := .tup [.str p.1, sT p.2]
abbrev kL (p : Str × List Str) : D := .lst [.str p.1, sL p.2]
abbrev webD (tags : List Str) (ks : List (Str × List Str)) : D := .tup [sT tags, .tup (ks.map kD)]
abbrev webL (tags : List Str) (ks : List (Str × List Str)) : D := .lst [sL tags, .lst (ks.map kL)]
def cpuN : List Str := ["c", "d", "p", "q"]
def kindN : List Str := ["a", "b", "k", "m"]
def taskN : List Str := ["t", "u", "v", "w", "a", "p", "ta", "b"]
structure Web (tags : List Str) (ks : List (Str × List Str)) : Prop where
  nd : tags.Nodup
  pos : 1 ≤ tags.length
  len : tags.length ≤ 4
  tin : ∀ x ∈ tags, x ∈ cpuN
  ne : ks ≠ []
  kl : ks.length ≤ 4
  knd : (ks.map (·.1)).Nodup
  kin : ∀ p ∈ ks, p.1 ∈ kindN
  mne : ∀ p ∈ ks, p.2 ≠ []
  mnd : ∀ p ∈ ks, p.2.Nodup
  msub : ∀ p ∈ ks, ∀ x ∈ p.2, x ∈ tags
structure Row (ks : List (Str × List Str)) (row : List (Str × Str)) : Prop where
  nd : (row.map (·.1)).Nodup
  few : row.length ≤ 6
  tin : ∀ p ∈ row, p.1 ∈ taskN
  kin : ∀ p ∈ row, ∃ m, (p.2, m) ∈ ks
def lkL : List (Str × List Str) → Str → Option (List Str)
  | [], _ => none
  | (y, d) :: r, x => if y = x then some d else lkL r x
def mfOf (ks : List (Str × List Str)) (row : List (Str × Str)) (n : Str) : List Str := match lk row n with
  | some k => (lkL ks k).getD []
  | none => []
theorem lkL_mem {ks : List (Str × List Str)} (nd : (ks.map (·.1)).Nodup) {k : Str} {m : List Str} (h : (k, m) ∈ ks) : lkL ks k = some m := by
  induction ks with
  | nil => cases h
  | cons p ks ih =>
    rw [List.map_cons, List.nodup_cons] at nd
    show (if p.1 = k then some p.2 else lkL ks k) = some m
    rcases List.mem_cons.mp h with rfl | h
    · exact if_pos rfl
    · rw [if_neg fun z => nd.1 (by rw [z]; exact List.mem_map.mpr ⟨_, h, rfl⟩)]
      exact ih nd.2 h
def isT1 : Option D → Bool
  | some (.bl true) => true
  | _ => false
theorem isT1_some {o : Option D} (h : isT1 o = true) : o = some (.bl true) := by
  unfold isT1 at h
  split at h
  · rfl
  · cases h
theorem nam_ok : ∀ s ∈ taskN ++ cpuN, isT1 (G_is_name [.str s]) = true := by decide +kernel
theorem sok_ok : ∀ s ∈ taskN ++ cpuN ++ kindN, PyData.strOk s = true := by decide +kernel
theorem nz_ok : ∀ s ∈ taskN, s ≠ "" := by decide +kernel
section
variable {tags : List Str} {ks : List (Str × List Str)} {row : List (Str × Str)}
theorem Row.mask (R : Row ks row) (W : Web tags ks) {p : Str × Str} (h : p ∈ row) : (p.2, mfOf ks row p.1) ∈ ks ∧ lkL ks p.2 = some (mfOf ks row p.1) := by
  obtain ⟨m, hm⟩ := R.kin p h
  have e : mfOf ks row p.1 = m := by
    unfold mfOf
    rw [mem_lk (m := p.2) R.nd h]
    show (lkL ks p.2).getD [] = m
    rw [lkL_mem W.knd hm]
    rfl
  rw [e]
  exact ⟨hm, lkL_mem W.knd hm⟩
theorem ins_ok (W : Web tags ks) (R : Row ks row) : Ins (row.map (·.1)) (mfOf ks row) tags where
  nd := R.nd
  few := by rw [List.length_map]; exact Nat.le_trans R.few (by decide)
  sub := fun n hn c hc => by
    obtain ⟨p, hp, rfl⟩ := List.mem_map.mp hn
    exact W.msub _ (R.mask W hp).1 c hc
  ndm := fun n hn => by
    obtain ⟨p, hp, rfl⟩ := List.mem_map.mp hn
    exact W.mnd _ (R.mask W hp).1
  cfew := W.len
  ne := fun n hn => by
    obtain ⟨p, hp, rfl⟩ := List.mem_map.mp hn
    exact W.mne _ (R.mask W hp).1
  sok := fun s hs => sok_ok s (List.mem_append_left _ (by
    rcases hs with hs | hs
    · obtain ⟨p, hp, rfl⟩ := List.mem_map.mp hs
      exact List.mem_append_left _ (R.tin p hp)
    · exact List.mem_append_right _ (W.tin s hs)))
  nam := fun s hs => isT1_some (nam_ok s (by
    rcases hs with hs | hs
    · obtain ⟨p, hp, rfl⟩ := List.mem_map.mp hs
      exact List.mem_append_left _ (R.tin p hp)
    · exact List.mem_append_right _ (W.tin s hs)))
  nz := fun n hn => by
    obtain ⟨p, hp, rfl⟩ := List.mem_map.mp hn
    exact nz_ok _ (R.tin p hp)
/-! tables -/
def ksD (ks : List (Str × List Str)) : List (Str × D) := ks.map fun p => (p.1, sT p.2)
theorem dget_ks (ks : List (Str × List Str)) (k : Str) : dget (ksD ks) k = (lkL ks k).map sT := by
  induction ks with
  | nil => rfl
  | cons p ks ih =>
    show (if p.1 = k then some (sT p.2) else dget (ksD ks) k) = (if p.1 = k then some p.2 else lkL ks k).map sT
    split
    · rfl
    · exact ih
theorem pairs_of (l : List (Str × D)) : pairsD (l.map fun p => .tup [.str p.1, p.2]) = some l := by
  induction l with
  | nil => rfl
  | cons p l ih =>
    rw [List.map_cons]
    unfold pairsD
    rw [ih]
    rfl
theorem merge_of : ∀ (l acc : List (Str × D)), ((acc ++ l).map (·.1)).Nodup → mergeD acc l = acc ++ l
  | [], acc, _ => by rw [List.append_nil]; rfl
  | p :: l, acc, h => by
    show mergeD (dput acc p.1 p.2) l = _
    have hn : p.1 ∉ acc.map (·.1) := fun z => by
      rw [List.map_append, List.nodup_append] at h
      exact h.2.2 _ z p.1 (by simp) rfl
    have e : dput acc p.1 p.2 = acc ++ [p] := by
      unfold dput
      rw [if_neg fun z => ?_]
      obtain ⟨q, hq, e⟩ := List.any_eq_true.mp z
      exact hn (List.mem_map.mpr ⟨q, hq, by simpa using e⟩)
    rw [e, merge_of l (acc ++ [p]) (by simpa using h)]
    simp
theorem tpD_of {l : List (Str × D)} (nd : (l.map (·.1)).Nodup) : tpD (.tup (l.map fun p => .tup [.str p.1, p.2])) = some l := by
  show (pairsD (l.map fun p => .tup [.str p.1, p.2])).map (mergeD []) = _
  rw [pairs_of]
  show some (mergeD [] l) = _
  rw [merge_of l [] (by simpa using nd)]
  rfl
theorem lpD_of {l : List (Str × D)} (nd : (l.map (·.1)).Nodup) : lpD (.lst (l.map fun p => .tup [.str p.1, p.2])) = some l := by
  show (pairsD (l.map fun p => .tup [.str p.1, p.2])).map (mergeD []) = _
  rw [pairs_of]
  show some (mergeD [] l) = _
  rw [merge_of l [] (by simpa using nd)]
  rfl
theorem tpD_ks (W : Web tags ks) : tpD (.tup (ks.map kD)) = some (ksD ks) := by
  have h := tpD_of (l := ksD ks) (by unfold ksD; rw [List.map_map]; exact W.knd)
  unfold ksD at h ⊢
  rw [List.map_map] at h
  exact h
theorem tb_keys (ns : List Str) (mf : Str → List Str) : (tbD ns mf).map (·.1) = ns := by
  unfold tbD
  rw [List.map_map]
  exact List.map_id ns
theorem law_may_ok (W : Web tags ks) (R : Row ks row) : G__law_may [webD tags ks, .tup (row.map tp2)] = some (.dct (tbD (row.map (·.1)) (mfOf ks row))) := by
  obtain ⟨d, e, q⟩ := G_of (n := 2) (m := 2) (F := F__law_may) (ds := [webD tags ks, .tup (row.map tp2)]) (Q := fun d => d = .dct (tbD (row.map (·.1)) (mfOf ks row))) rfl (by
    have hrl := R.few
    have ei : idxL (webD tags ks) (.int 1) = some (.tup (ks.map kD)) := L2.atI_nat (j := 1) (xs := [sT tags, .tup (ks.map kD)]) rfl
    have et := tpD_ks W
    unfold kD at ei et
    unfold F__law_may
    simp
    rw [sml_of (by simp; omega), W_lft]
    refine W_comp tp2 (fun _ => true) (fun p => .tup [.str p.1, sT (mfOf ks row p.1)]) row (fun p hp => ⟨_, rfl, ?_, fun _ => ?_⟩) ?_
    · simp
    · have hm := (R.mask W hp).2
      simp at ei et
      simp [ei, et, dget_ks, hm]
    · have ef : (List.filter (fun _ => true) row) = row := List.filter_eq_self.mpr fun _ _ => rfl
      rw [ef]
      have hl := lpD_of (l := tbD (row.map (·.1)) (mfOf ks row)) (by rw [tb_keys]; exact R.nd)
      unfold tbD at hl ⊢
      simp only [List.map_map] at hl ⊢
      refine W_lft' hl ?_
      rfl)
  rw [show G__law_may [webD tags ks, .tup (row.map tp2)] = some d from e, q]
theorem bd2_eq {i j : Nat} {ρ : Env} {d a b : D} (h : seqOf d = some [a, b]) : bd2 i j d ρ = some ((ρ.set i (some (.val a))).set j (some (.val b))) := by
  show (match seqOf d with
    | some [a, b] => some ((ρ.set i (some (.val a))).set j (some (.val b)))
    | _ => none) = _
  rw [h]
theorem tasks_ok (R : Row ks row) {ready : D} (em : Str × Str → D) (hs : seqOf ready = some (row.map em)) (he : ∀ p, seqOf (em p) = some [.str p.1, .str p.2]) : G_tasks_of [ready] = some (sL (row.map (·.1))) := by
  obtain ⟨d, e, q⟩ := G_of (n := 1) (m := 2) (F := F_tasks_of) (ds := [ready]) (Q := fun d => d = sL (row.map (·.1))) rfl (by
    have hrl := R.few
    unfold F_tasks_of
    simp [hs]
    rw [sml_of (by simp; omega), W_lft]
    refine W_comp em (fun _ => true) (fun p => .str p.1) row (fun p hp => ⟨_, bd2_eq (he p), ?_, fun _ => ?_⟩) ?_
    · simp
    · simp
    · have ef : (List.filter (fun _ => true) row) = row := List.filter_eq_self.mpr fun _ _ => rfl
      rw [ef]
      rfl)
  rw [show G_tasks_of [ready] = some d from e, q]
theorem masks_ok (W : Web tags ks) {book x : D} (em : Str × List Str → D) (hb : idxL book (.int 1) = some x) (hx : seqOf x = some (ks.map em)) (hi : isiD ["list", "tuple"] x = some (.bl true))
    (he : ∀ p, ∃ y, seqOf (em p) = some [.str p.1, y] ∧ isiD ["list", "tuple"] (em p) = some (.bl true) ∧ seqOf y = some (p.2.map D.str) ∧ isiD ["list", "tuple"] y = some (.bl true)) : G_masks_table [book] = some (.dct (ksD ks)) := by
  have hl : ∀ p ∈ ks, p.2.length ≤ 100000 := fun p hp => Nat.le_trans (Nat.le_trans (sub_len (W.mnd p hp) (W.msub p hp)) W.len) (by decide)
  have ht : G_tupled 8 [x] = some (.tup (ks.map kD)) := tupled_seq 7 em kD hx hi (Nat.le_trans W.kl (by decide)) fun p hp => by
    obtain ⟨y, h1, h2, h3, h4⟩ := he p
    have hy : G_tupled 6 [y] = some (sT p.2) := tupled_seq 5 (xs := p.2) D.str D.str h3 h4 (hl p hp) fun s _ => tupled_str 4 s
    refine tupled_seq 6 (xs := [((.str p.1, .str p.1) : D × D), (y, sT p.2)]) (·.1) (·.2) h1 h2 (by simp) fun z hz => ?_
    rcases List.mem_cons.mp hz with rfl | hz
    · exact tupled_str 5 p.1
    · rw [List.mem_singleton.mp hz]
      exact hy
  obtain ⟨d, e, q⟩ := G_of (n := 1) (m := 0) (F := F_masks_table) (ds := [book]) (Q := fun d => d = .dct (ksD ks)) rfl (by
    have et := tpD_ks W
    unfold F_masks_table
    simp [hb, ht, et])
  rw [show G_masks_table [book] = some d from e, q]
/-- a dict made item by item -/
theorem W_dcomp {bd : D → Env → Option Env} {fk fv : FD Unit} {ρ : Env} {β : Type} {Q : List (Str × D) → Unit → Prop} (em : β → D) (g : β → Str) (f : β → D) : ∀ (ys : List β) (acc : List (Str × D)) (h : ∀ y ∈ ys, ∃ ρ1, bd (em y) ρ = some ρ1 ∧ W (fk ρ1) () (fun d _ => d = .str (g y)) ∧ W (fv ρ1) () fun d _ => d = f y)
    (q : Q (mergeD acc (ys.map fun y => (g y, f y))) ()), W (dcF bd fk fv ρ (ys.map em) acc) () Q
  | [], acc, _, q => W_ret.mpr q
  | y :: ys, acc, h, q => by
    obtain ⟨ρ1, e, w1, w2⟩ := h y List.mem_cons_self
    rw [List.map_cons]
    unfold dcF
    rw [W_bnd]
    refine W_lft' e ?_
    rw [W_bnd]
    refine w1.mono fun d _ e1 => ?_
    rw [e1, W_bnd]
    refine W_lft' (show asS (.str (g y)) = some (g y) from rfl) ?_
    rw [W_bnd]
    refine w2.mono fun d _ e2 => ?_
    rw [e2]
    exact W_dcomp em g f ys _ (fun z hz => h z (List.mem_cons_of_mem _ hz)) q
theorem may_ok (W : Web tags ks) (R : Row ks row) {book ready : D} (hm : G_masks_table [book] = some (.dct (ksD ks))) (em : Str × Str → D) (hs : seqOf ready = some (row.map em)) (he : ∀ p, seqOf (em p) = some [.str p.1, .str p.2]) :
    G_may_table [book, ready] = some (.dct (tbD (row.map (·.1)) (mfOf ks row))) := by
  obtain ⟨d, e, q⟩ := G_of (n := 2) (m := 3) (F := F_may_table) (ds := [book, ready]) (Q := fun d => d = .dct (tbD (row.map (·.1)) (mfOf ks row))) rfl (by
    have hrl := R.few
    unfold F_may_table
    simp [hm, hs]
    rw [sml_of (by simp; omega), W_lft]
    refine W_dcomp em (·.1) (fun p => sT (mfOf ks row p.1)) row [] (fun p hp => ⟨_, bd2_eq (he p), ?_, ?_⟩) ?_
    · simp
    · simp [dget_ks, (R.mask W hp).2]
    · have e : (row.map fun p => (p.1, sT (mfOf ks row p.1))) = tbD (row.map (·.1)) (mfOf ks row) := by
        unfold tbD
        rw [List.map_map]
        rfl
      rw [e, merge_of _ [] (by rw [List.nil_append, tb_keys]; exact R.nd)]
      simp)
  rw [show G_may_table [book, ready] = some d from e, q]
theorem bk_ok (W : Web tags ks) (R : Row ks row) {book ready : D} (hm : G_masks_table [book] = some (.dct (ksD ks))) (em : Str × Str → D) (hs : seqOf ready = some (row.map em)) (he : ∀ p, seqOf (em p) = some [.str p.1, .str p.2]) : Bk book ready (row.map (·.1)) (mfOf ks row) :=
  ⟨may_ok W R hm em hs he, tasks_ok R em hs he⟩
theorem bk_tp (W : Web tags ks) (R : Row ks row) : Bk (webD tags ks) (.tup (row.map tp2)) (row.map (·.1)) (mfOf ks row) :=
  bk_ok W R (masks_ok W kD (L2.atI_nat (j := 1) (xs := [sT tags, .tup (ks.map kD)]) rfl) rfl rfl fun p => ⟨sT p.2, rfl, rfl, rfl, rfl⟩) tp2 rfl fun _ => rfl
theorem bk_ls (W : Web tags ks) (R : Row ks row) : Bk (webL tags ks) (.lst (row.map ls2)) (row.map (·.1)) (mfOf ks row) :=
  bk_ok W R (masks_ok W kL (L2.atI_nat (j := 1) (xs := [sL tags, .lst (ks.map kL)]) rfl) rfl rfl fun p => ⟨sL p.2, rfl, rfl, rfl, rfl⟩) ls2 rfl fun _ => rfl
/-! in lists -/
theorem lists_str (n : Nat) (s : Str) : G__law_lists (n + 1) [.str s] = some (.str s) := by
  obtain ⟨d, e, q⟩ := G_of (n := 1) (m := 1) (F := F__law_lists (G__law_lists n)) (ds := [.str s]) (Q := fun d => d = .str s) rfl (by
    unfold F__law_lists
    have h : isiD ["list", "tuple"] (.str s) = some (.bl false) := rfl
    simp [h])
  rw [show G__law_lists (n + 1) [.str s] = some d from e, q]
theorem lists_seq (n : Nat) {d : D} {β : Type} {xs : List β} (em g : β → D) (hs : seqOf d = some (xs.map em)) (hi : isiD ["list", "tuple"] d = some (.bl true)) (hl : xs.length ≤ 100000) (h : ∀ x ∈ xs, G__law_lists n [em x] = some (g x)) : G__law_lists (n + 1) [d] = some (.lst (xs.map g)) := by
  obtain ⟨d', e, q⟩ := G_of (n := 1) (m := 1) (F := F__law_lists (G__law_lists n)) (ds := [d]) (Q := fun r => r = .lst (xs.map g)) rfl (by
    unfold F__law_lists
    simp [hi, hs]
    rw [sml_of (by simp; omega)]
    simp
    refine W_comp em (fun _ => true) g xs (fun x hx => ⟨_, rfl, ?_, fun _ => ?_⟩) ?_
    · simp
    · simp [h x hx]
    · have ef : (List.filter (fun _ => true) xs) = xs := List.filter_eq_self.mpr fun _ _ => rfl
      simp [ef])
  rw [show G__law_lists (n + 1) [d] = some d' from e, q]
theorem lists_two (n : Nat) (a b : Str) : G__law_lists (n + 2) [.tup [.str a, .str b]] = some (.lst [.str a, .str b]) := lists_seq (n + 1) (xs := [a, b]) D.str D.str rfl rfl (by simp) fun x _ => lists_str n x
theorem lists_rows {sd : List (Str × Str)} (hl : sd.length ≤ 100000) : G__law_lists 8 [.tup (sd.map tp2)] = some (.lst (sd.map ls2)) := lists_seq 7 tp2 ls2 rfl rfl hl fun p _ => lists_two 5 p.1 p.2
theorem lists_strs {xs : List Str} (n : Nat) (hl : xs.length ≤ 100000) : G__law_lists (n + 2) [sT xs] = some (sL xs) := lists_seq (n + 1) D.str D.str rfl rfl hl fun s _ => lists_str n s
theorem lists_web (W : Web tags ks) : G__law_lists 8 [webD tags ks] = some (webL tags ks) := by
  have hl : ∀ p ∈ ks, p.2.length ≤ 100000 := fun p hp => Nat.le_trans (Nat.le_trans (sub_len (W.mnd p hp) (W.msub p hp)) W.len) (by decide)
  refine lists_seq 7 (xs := [((sT tags, sL tags) : D × D), (.tup (ks.map kD), .lst (ks.map kL))]) (·.1) (·.2) rfl rfl (by simp) fun z hz => ?_
  rcases List.mem_cons.mp hz with rfl | hz
  · exact lists_strs 5 (Nat.le_trans W.len (by decide))
  · rw [List.mem_singleton.mp hz]
    refine lists_seq 6 kD kL rfl rfl (Nat.le_trans W.kl (by decide)) fun p hp => ?_
    refine lists_seq 5 (xs := [((.str p.1, .str p.1) : D × D), (sT p.2, sL p.2)]) (·.1) (·.2) rfl rfl (by simp) fun z hz => ?_
    rcases List.mem_cons.mp hz with rfl | hz
    · exact lists_str 4 p.1
    · rw [List.mem_singleton.mp hz]
      exact lists_strs 3 (hl p hp)
end
end MM
/-! Q22 -/
namespace MM
open PySem Q
/-! ### the draws of a book and of a row -/
/-- a comprehension whose items change the state -/
theorem W_compS {T : Type} {bd : D → Env → Option Env} {ft : FB T} {fe : FD T} {ρ : Env} {β : Type} (em : β → D) (P : List β → List D → T → Prop) (h : ∀ y ys acc t, P (y :: ys) acc t → ∃ ρ1, bd (em y) ρ = some ρ1 ∧ W (ft ρ1) t (fun b t1 => b = true ∧ t1 = t) ∧ W (fe ρ1) t fun d t2 => P ys (acc ++ [d]) t2) :
    ∀ (ys : List β) (acc : List D) (t : T) (Q : List D → T → Prop), P ys acc t → (∀ ds t', P [] (acc ++ ds) t' → Q ds t') → W (compF bd ft fe (ys.map em) ρ) t Q
  | [], acc, t, Q, p, q => W_ret.mpr (q [] t (by rw [List.append_nil]; exact p))
  | y :: ys, acc, t, Q, p, q => by
    obtain ⟨ρ1, e, w1, w2⟩ := h y ys acc t p
    rw [List.map_cons]
    unfold compF
    rw [W_bnd]
    refine W_lft' e ?_
    rw [W_bnd]
    refine w1.mono fun b t1 ⟨e1, e2⟩ => ?_
    subst e1
    subst e2
    rw [W_bnd]
    refine w2.mono fun d t2 p2 => ?_
    rw [W_bnd]
    refine W_compS em P h ys (acc ++ [d]) t2 _ p2 fun ds t' p3 => ?_
    exact W_ret.mpr (q (d :: ds) t' (by rw [List.append_assoc] at p3; exact p3))
theorem cut_tags (i : Nat) (h : i < 4) : ∃ tags : List Str, cutD [.str "c", .str "d", .str "p", .str "q", .str "r", .str "zzzzzzzz"] none (some (1 + (i : Int))) = tags.map D.str ∧ tags.Nodup ∧ 1 ≤ tags.length ∧ tags.length ≤ 4 ∧ ∀ x ∈ tags, x ∈ cpuN := by
  match i, h with
  | 0, _ => exact ⟨["c"], rfl, by decide, by decide, by decide, by decide⟩
  | 1, _ => exact ⟨["c", "d"], rfl, by decide, by decide, by decide, by decide⟩
  | 2, _ => exact ⟨["c", "d", "p"], rfl, by decide, by decide, by decide, by decide⟩
  | 3, _ => exact ⟨["c", "d", "p", "q"], rfl, by decide, by decide, by decide, by decide⟩
theorem cut_kinds (i : Nat) (h : i < 4) : ∃ tags : List Str, cutD [.str "a", .str "b", .str "k", .str "m", .str "x", .str "y"] none (some (1 + (i : Int))) = tags.map D.str ∧ tags.Nodup ∧ 1 ≤ tags.length ∧ tags.length ≤ 4 ∧ ∀ x ∈ tags, x ∈ kindN := by
  match i, h with
  | 0, _ => exact ⟨["a"], rfl, by decide, by decide, by decide, by decide⟩
  | 1, _ => exact ⟨["a", "b"], rfl, by decide, by decide, by decide, by decide⟩
  | 2, _ => exact ⟨["a", "b", "k"], rfl, by decide, by decide, by decide, by decide⟩
  | 3, _ => exact ⟨["a", "b", "k", "m"], rfl, by decide, by decide, by decide, by decide⟩
theorem nat_add (i : Nat) : (1 + (i : Int)) = ((1 + i : Nat) : Int) := by omega
theorem web_ok {t : Tub} {n : Nat} (h : Tb n t) (hn : n ≤ 800000) {Q : D → Tub → Prop} (q : ∀ tags ks t', Web tags ks → Tb (n + 60) t' → Q (webD tags ks) t') : W (G__law_web [.tub, .int 4, .int 4]) t Q := by
  refine runD_W (n := 3) (m := 3) rfl ?_
  unfold F__law_web
  have s6 : ∀ a b c d e f : D, sml [a, b, c, d, e, f] = some [a, b, c, d, e, f] := fun _ _ _ _ _ _ => rfl
  simp [s6]
  refine take_ok h (by omega) (by omega) (by omega) fun i t1 hi h1 => ?_
  obtain ⟨tags, et, nd, pos, len, tin⟩ := cut_tags i (by omega)
  simp [et]
  refine take_ok h1 (by omega) (by omega) (by omega) fun j t2 hj h2 => ?_
  obtain ⟨kn, ek, knd, kpos, klen, kin⟩ := cut_kinds j (by omega)
  simp [ek]
  refine W_for (fun xs ρ t => ∃ (ks : List (Str × List Str)) (rest : List Str) (x5 : Option SV), ks.map (·.1) ++ rest = kn ∧ xs = rest.map D.str ∧ ρ = [some (.val .tub), some (.val (.int 4)), some (.val (.int 4)), some (.val (sL tags)), some (.ol (ks.map kD)), x5] ∧
      (∀ p ∈ ks, p.2 ≠ [] ∧ p.2.Nodup ∧ ∀ x ∈ p.2, x ∈ tags) ∧ Tb (n + 2 + 12 * ks.length) t) (R := fun _ _ => False) ?_ ⟨[], kn, none, rfl, rfl, rfl, (fun _ h => nomatch h), h2⟩ ?_ ?_
  · rintro x xs ρ t ⟨ks, rest, x5, e1, e2, rfl, hk, ht⟩
    cases rest with
    | nil => cases e2
    | cons k rest =>
      cases e2
      have hkl := congrArg List.length e1
      rw [List.length_append, List.length_map, List.length_cons] at hkl
      refine ⟨_, rfl, ?_⟩
      simp
      refine take_ok ht (by omega) (by omega) (by omega) fun i t3 hi h3 => ?_
      rw [iI_int, Option.map_some, W_lft, nat_add]
      refine pick_ok (by omega) h3 (by omega) fun ys left t4 hp hl h4 => ?_
      have hys : ys.length ≤ 10 := by
        have := hp.length_eq
        rw [List.length_append] at this
        omega
      have hne : ys ≠ [] := fun z => by rw [z] at hl; simp at hl; omega
      have hnd : ys.Nodup := by
        have := (hp.nodup_iff).mpr nd
        exact (List.nodup_append.mp this).1
      have hsub : ∀ x ∈ ys, x ∈ tags := fun x hx => hp.mem_iff.mp (List.mem_append_left _ hx)
      have hs := sort_strs (xs := ys) (by omega)
      have hksl : (ks.map kD).length ≤ 100000 := by rw [List.length_map]; omega
      simp at hs hksl
      simp [hs, appE, hksl]
      refine ⟨ks ++ [(k, srt ys)], rest, by rw [← e1]; simp, rfl, by simp, fun k' m' hp' => ?_, h4.mono (by simp; omega)⟩
      rcases List.mem_append.mp hp' with hp' | hp'
      · exact hk (k', m') hp'
      · have hp' := List.mem_singleton.mp hp'
        cases hp'
        refine ⟨fun z => hne (by have := (srt_perm ys).length_eq; rw [z] at this; exact List.length_eq_zero_iff.mp this.symm), (srt_perm ys).nodup_iff.mpr hnd, fun x hx => hsub x ((srt_perm ys).mem_iff.mp hx)⟩
  · rintro ρ' t' ⟨ks, rest, x5, e1, e2, rfl, hk, ht⟩
    cases rest with
    | cons _ _ => cases e2
    | nil =>
      rw [List.append_nil] at e1
      have hkl := congrArg List.length e1
      rw [List.length_map] at hkl
      simp
      exact q tags ks t' ⟨nd, pos, len, tin, fun z => by rw [z] at hkl; simp at hkl; omega, by omega, by rw [e1]; exact knd, fun p hp => kin _ (by rw [← e1]; exact List.mem_map.mpr ⟨p, hp, rfl⟩), fun p hp => (hk p hp).1, fun p hp => (hk p hp).2.1, fun p hp => (hk p hp).2.2⟩ (ht.mono (by omega))
  · exact fun _ _ z => False.elim z
theorem row_ok {t : Tub} {n : Nat} {tags : List Str} {ks : List (Str × List Str)} (Wb : Web tags ks) (h : Tb n t) (hn : n ≤ 800000) {Q : D → Tub → Prop} (q : ∀ row t', Row ks row → Tb (n + 20) t' → Q (.tup (row.map tp2)) t') : W (G__law_row [.tub, webD tags ks, .int 6]) t Q := by
  refine runD_W (n := 3) (m := 2) rfl ?_
  unfold F__law_row
  have s8 : ∀ a b c d e f g h : D, sml [a, b, c, d, e, f, g, h] = some [a, b, c, d, e, f, g, h] := fun _ _ _ _ _ _ _ _ => rfl
  simp [s8]
  refine take_ok h (by omega) (by omega) (by omega) fun i t1 hi h1 => ?_
  refine pick_ok (xs := taskN) (by decide) h1 (by omega) fun ys left t2 hp hl h2 => ?_
  have hnd : ys.Nodup := (List.nodup_append.mp (hp.nodup_iff.mpr (by decide))).1
  have hsub : ∀ x ∈ ys, x ∈ taskN := fun x hx => hp.mem_iff.mp (List.mem_append_left _ hx)
  have hyl : ys.length ≤ 6 := by omega
  have ei : idxL (webD tags ks) (.int 1) = some (.tup (ks.map kD)) := L2.atI_nat (j := 1) (xs := [sT tags, .tup (ks.map kD)]) rfl
  simp
  rw [sml_of (by simp; omega), W_lft]
  refine W_compS D.str (fun rest acc t => ∃ row : List (Str × Str), acc = row.map tp2 ∧ row.map (·.1) ++ rest = ys ∧ (∀ p ∈ row, ∃ m, (p.2, m) ∈ ks) ∧ Tb (n + 11 + row.length) t) ?_ ys [] t2 _ ⟨[], rfl, rfl, (fun _ h => nomatch h), h2.mono (by simp)⟩ ?_
  · rintro x xs acc t ⟨row, rfl, e1, hk, ht⟩
    have hrl := congrArg List.length e1
    rw [List.length_append, List.length_map, List.length_cons] at hrl
    refine ⟨_, rfl, ?_, ?_⟩
    · simp
    · simp [ei]
      refine of_ok (ds := ks.map kD) rfl (by simp) (by simp [Wb.ne]) (by rw [List.length_map]; have := Wb.kl; omega) ht (by omega) fun z t' hz ht' => ?_
      obtain ⟨p, hp, rfl⟩ := List.mem_map.mp hz
      simp
      refine ⟨row ++ [(x, p.1)], by simp, by rw [← e1]; simp, fun r m hr => ?_, ht'.mono (by simp; omega)⟩
      rcases List.mem_append.mp hr with hr | hr
      · exact hk (r, m) hr
      · have hr := List.mem_singleton.mp hr
        cases hr
        exact ⟨p.2, hp⟩
  · rintro ds t' ⟨row, e0, e1, hk, ht⟩
    rw [List.append_nil] at e1
    have e0 : ds = row.map tp2 := e0
    subst e0
    have hrl := congrArg List.length e1
    rw [List.length_map] at hrl
    exact q row t' ⟨by rw [e1]; exact hnd, by omega, fun p hp => hsub _ (by rw [← e1]; exact List.mem_map.mpr ⟨p, hp, rfl⟩), hk⟩ (ht.mono (by omega))
end MM
/-! Q23 -/
namespace MM
open PySem Q
/-! ### the draw of a seating -/
theorem lk_none {sd : List (Str × Str)} {c : Str} (h : lk sd c = none) : c ∉ sd.map (·.1) := by
  induction sd with
  | nil => exact fun z => nomatch z
  | cons p sd ih =>
    have h : (if p.1 = c then some p.2 else lk sd c) = none := h
    split at h
    · cases h
    · next e =>
      rw [List.map_cons]
      intro z
      rcases List.mem_cons.mp z with z | z
      · exact e z.symm
      · exact ih h z
theorem lk_snoc {c m : Str} : ∀ {sd : List (Str × Str)}, lk sd c = none → ∀ y, lk (sd ++ [(c, m)]) y = if c = y then some m else lk sd y
  | [], _, y => rfl
  | p :: sd, h, y => by
    have h : (if p.1 = c then some p.2 else lk sd c) = none := h
    show (if p.1 = y then some p.2 else lk (sd ++ [(c, m)]) y) = if c = y then some m else (if p.1 = y then some p.2 else lk sd y)
    split at h
    · cases h
    · next e =>
      rw [lk_snoc h y]
      by_cases e1 : p.1 = y
      · rw [if_pos e1, if_neg (fun z => e (by rw [e1, z])), if_pos e1]
      · rw [if_neg e1, if_neg e1]
section
variable {ns : List Str} {mf : Str → List Str} {cs : List Str} {sd row : List (Str × Str)} {t : Str} {book ready seating web : D}
theorem Sea.snoc (S : Sea ns mf sd) (ht : t ∈ ns) (w : ¬ Run (lk sd) t) {c : Str} (hc : c ∈ mf t) (h : lk sd c = none) : Sea ns mf (sd ++ [(c, t)]) where
  nd := by
    rw [List.map_append, List.nodup_append]
    refine ⟨S.nd, by simp, fun a ha b hb => ?_⟩
    simp at hb
    subst hb
    exact fun z => lk_none h (by rw [← z]; exact ha)
  va := by
    refine ⟨fun x m e => ?_, fun x m e => ?_, fun x y m e1 e2 => ?_⟩
    · rw [lk_snoc h] at e
      split at e
      · cases e; exact ht
      · exact S.va.mem x m e
    · rw [lk_snoc h] at e
      split at e
      · next q => cases e; rw [← q]; exact hc
      · exact S.va.ok x m e
    · rw [lk_snoc h] at e1 e2
      split at e1
      · next q1 =>
        cases e1
        split at e2
        · next q2 => rw [← q1, ← q2]
        · exact absurd ⟨y, e2⟩ w
      · split at e2
        · cases e2
          exact absurd ⟨x, e1⟩ w
        · exact S.va.inj x y m e1 e2
theorem Sea.srt (S : Sea ns mf sd) : Sea ns mf (srtP sd) where
  nd := by
    have := (srtP_perm sd).map (·.1)
    exact this.nodup_iff.mpr S.nd
  va := by
    rw [lk_perm (srtP_perm sd) S.nd]
    exact S.va
theorem seats_ok {tb : Tub} {n : Nat} (I : Ins ns mf cs) (hrow : row.map (·.1) = ns) (hm : G__law_may [web, .tup (row.map tp2)] = some (.dct (tbD ns mf))) (h : Tb n tb) (hn : n ≤ 700000) {Q : D → Tub → Prop} (q : ∀ sd t', Sea ns mf sd → Tb (n + 40) t' → Q (.tup (sd.map tp2)) t') :
    W (G__law_seats [.tub, web, .tup (row.map tp2)]) tb Q := by
  have hrl : row.length ≤ 8 := by
    have := congrArg List.length hrow
    rw [List.length_map] at this
    rw [this]
    exact I.few
  refine runD_W (n := 3) (m := 6) rfl ?_
  unfold F__law_seats
  unfold tp2 at hm
  simp [hm]
  rw [sml_of (by simp; omega), W_lft]
  refine W_comp tp2 (fun _ => true) (fun p => D.str p.1) row (fun p hp => ⟨_, rfl, ?_, fun _ => ?_⟩) ?_
  · simp
  · simp
  have ef : (List.filter (fun _ => true) row) = row := List.filter_eq_self.mpr fun _ _ => rfl
  have em : (row.map fun p => D.str p.1) = ns.map D.str := by rw [← hrow, List.map_map]; rfl
  rw [ef, em]
  refine pick_ok (by have := I.few; omega) h (by omega) fun ys left t1 hp hl h1 => ?_
  have hnd : ys.Nodup := (List.nodup_append.mp (hp.nodup_iff.mpr I.nd)).1
  have hsub : ∀ x ∈ ys, x ∈ ns := fun x hx => hp.mem_iff.mp (List.mem_append_left _ hx)
  have hyl : ys.length ≤ 8 := by
    have := hp.length_eq
    rw [List.length_append] at this
    have := I.few
    omega
  simp
  refine W_for (fun xs ρ t => ∃ (found : List (Str × Str)) (done rest : List Str) (x3 x6 x7 x8 : Option SV), done ++ rest = ys ∧ xs = rest.map D.str ∧ ρ = [some (.val .tub), some (.val web), some (.val (.tup (row.map tp2))), x3, some (.val (.dct (tbD ns mf))), some (.ol (found.map tp2)), x6, x7, x8] ∧
      Sea ns mf found ∧ (∀ m, Run (lk found) m → m ∈ done) ∧ Tb (n + 10 + 2 * done.length) t) (R := fun _ _ => False) ?_ ⟨[], [], ys, none, none, none, none, rfl, rfl, rfl, ⟨List.nodup_nil, ⟨(fun _ _ h => nomatch h), (fun _ _ h => nomatch h), (fun _ _ _ h => nomatch h)⟩⟩, (fun m ⟨c, h⟩ => nomatch h), h1⟩ ?_ ?_
  · rintro x xs ρ t ⟨found, done, rest, x3, x6, x7, x8, e1, e2, rfl, S, hd, ht⟩
    cases rest with
    | nil => cases e2
    | cons a rest =>
      cases e2
      have hdl := congrArg List.length e1
      rw [List.length_append, List.length_cons] at hdl
      have ha : a ∈ ns := hsub a (by rw [← e1]; simp)
      have had : a ∉ done := fun z => by
        rw [← e1, List.nodup_append] at hnd
        exact hnd.2.2 a z a List.mem_cons_self rfl
      have hw : ¬ Run (lk found) a := fun z => had (hd a z)
      have hlp : lpD (.lst (found.map tp2)) = some (stD found) := by
        have := lpD_of (l := stD found) (by unfold stD; rw [List.map_map]; exact S.nd)
        unfold stD at this ⊢
        rw [List.map_map] at this
        exact this
      have hml := I.mlen ha
      unfold tp2 at hlp
      refine ⟨_, rfl, ?_⟩
      simp [dget_tb ha]
      rw [sml_of (by simp; omega), W_lft]
      refine W_comp D.str (fun c => !(lk found c).isSome) D.str (mf a) (fun c hc => ⟨_, rfl, ?_, fun _ => ?_⟩) ?_
      · simp [hlp]
      · simp
      have hnil := eqD_nil (ds := ((mf a).filter fun c => !(lk found c).isSome).map D.str) (k := 0) true (fun d hd => by
        obtain ⟨c, hc, rfl⟩ := List.mem_map.mp hd
        exact pd_str (I.sok c (.inr (I.sub a ha c (List.mem_filter.mp hc).1)))) (by decide)
      have hfl : ((mf a).filter fun c => !(lk found c).isSome).length ≤ 4 := Nat.le_trans (List.length_filter_le _ _) hml
      have hfm : ∀ c ∈ ((mf a).filter fun c => !(lk found c).isSome), c ∈ mf a ∧ lk found c = none := fun c hc => by
        obtain ⟨z1, z2⟩ := List.mem_filter.mp hc
        refine ⟨z1, ?_⟩
        cases e : lk found c with
        | none => rfl
        | some m => rw [e] at z2; cases z2
      generalize ((mf a).filter fun c => !(lk found c).isSome) = fr at hnil hfl hfm
      simp [hnil]
      have hds : done ++ [a] ++ rest = ys := by rw [← e1]; simp
      have old : ∀ t', Tb (n + 10 + 2 * (done ++ [a]).length) t' → ∃ (found' : List (Str × Str)) (done rest' : List Str), done ++ rest' = ys ∧ rest.map D.str = rest'.map D.str ∧ found.map tp2 = found'.map tp2 ∧ Sea ns mf found' ∧ (∀ m, Run (lk found') m → m ∈ done) ∧ Tb (n + 10 + 2 * done.length) t' := fun t' ht' =>
        ⟨found, done ++ [a], rest, hds, rfl, rfl, S, fun m hm => List.mem_append_left _ (hd m hm), ht'⟩
      cases fr with
      | nil =>
        simp
        exact old t (ht.mono (by simp; omega))
      | cons c0 fr =>
        simp
        refine take_ok ht (by omega) (by omega) (by omega) fun i t2 hi h2 => ?_
        by_cases hi0 : 0 < i
        · simp [hi0]
          refine of_ok (ds := D.str c0 :: fr.map D.str) rfl rfl (by simp) (by simp at hfl ⊢; omega) h2 (by omega) fun z t3 hz h3 => ?_
          obtain ⟨c, hc, rfl⟩ : ∃ c, c ∈ c0 :: fr ∧ z = D.str c := by
            rcases List.mem_cons.mp hz with rfl | hz
            · exact ⟨c0, List.mem_cons_self, rfl⟩
            · obtain ⟨c, hc, rfl⟩ := List.mem_map.mp hz
              exact ⟨c, List.mem_cons_of_mem _ hc, rfl⟩
          obtain ⟨hcm, hcn⟩ := hfm c hc
          have hfl2 : (found.map tp2).length ≤ 100000 := by have := S.len I; rw [List.length_map]; omega
          unfold appE
          simp only [List.getElem?_cons_succ, List.getElem?_cons_zero]
          rw [if_pos hfl2, W_lft]
          refine ⟨found ++ [(c, a)], done ++ [a], rest, hds, rfl, ⟨_, _, _, _, by simp; exact ⟨rfl, rfl, rfl, rfl⟩⟩, S.snoc ha hw hcm hcn, fun m ⟨y, hy⟩ => ?_, h3.mono (by simp; omega)⟩
          rw [lk_snoc hcn] at hy
          split at hy
          · cases hy; simp
          · exact List.mem_append_left _ (hd m ⟨y, hy⟩)
        · simp [hi0]
          exact old t2 (h2.mono (by simp; omega))
  · rintro ρ' t' ⟨found, done, rest, x3, x6, x7, x8, e1, e2, rfl, S, hd, ht⟩
    cases rest with
    | cons _ _ => cases e2
    | nil =>
      rw [List.append_nil] at e1
      have hfl := S.len I
      have hs := sort_tps (sd := found) (by omega)
      simp [hs]
      exact q (srtP found) t' S.srt (ht.mono (by rw [e1]; omega))
  · exact fun _ _ z => False.elim z
end
end MM
/-! Q24 -/
namespace MM
open PySem Q
/-! ### the draw of shifts -/
section
variable {ns : List Str} {mf : Str → List Str} {cs : List Str} {sd row : List (Str × Str)} {t : Str} {book ready seating web : D}
/-- all shifts of all tasks -/
structure Evy (ns : List Str) (mf : Str → List Str) (f : Str → Option Str) (ways : List (List (Str × Str))) : Prop where
  are : ∀ ps ∈ ways, ∃ t c, Shf ns mf f t ps c
  stl : ways = [] → Stl ns mf f
  few : ways.length ≤ 90000
theorem every_ok {tb : Tub} {x7 x9' x10 : Option SV} {x1 x3 x8 : Option SV} (I : Ins ns mf cs) (S : Sea ns mf sd) (hrow : row.map (·.1) = ns) {Q : Out → Tub → Prop} (q : ∀ ways x8 x9, Evy ns mf (lk sd) ways → Q (.nx [some (.val .tub), x1, some (.val (.tup (row.map tp2))), x3, some (.val (.lst (ways.map wayD))), some (.val (.dct (tbD ns mf))), some (.val (.tup (sd.map tp2))), x7, x8, x9, x10]) tb) :
    W (forF (bd2 8 9) (sSet 4 (oL (l2 catL (xB 4) (cP 4 G__law_shifts (aC (xV 2) (aC (xV 5) (aC (xV 6) (aC (xV 8) (aN))))))))) (row.map tp2) [some (.val .tub), x1, some (.val (.tup (row.map tp2))), x3, some (.val (.lst [])), some (.val (.dct (tbD ns mf))), some (.val (.tup (sd.map tp2))), x7, x8, x9', x10]) tb Q := by
  have hrl : row.length ≤ 8 := by
    have := congrArg List.length hrow
    rw [List.length_map] at this
    rw [this]
    exact I.few
  refine W_for (fun xs ρ t' => t' = tb ∧ ∃ (done rest : List (Str × Str)) (ways : List (List (Str × Str))) (x8 x9 : Option SV), done ++ rest = row ∧ xs = rest.map tp2 ∧ ρ = [some (.val .tub), x1, some (.val (.tup (row.map tp2))), x3, some (.val (.lst (ways.map wayD))), some (.val (.dct (tbD ns mf))), some (.val (.tup (sd.map tp2))), x7, x8, x9, x10] ∧
      (∀ ps ∈ ways, ∃ t c, Shf ns mf (lk sd) t ps c) ∧ (ways = [] → ∀ p ∈ done, ∀ ps c, ¬ Shf ns mf (lk sd) p.1 ps c) ∧ ways.length ≤ 10000 * done.length) (R := fun _ _ => False) ?_ ⟨rfl, [], row, [], _, _, rfl, rfl, rfl, (fun _ h => nomatch h), (fun _ _ h => nomatch h), by simp⟩ ?_ ?_
  · rintro x xs ρ t' ⟨rfl, done, rest, ways, y8, y9, e1, e2, rfl, h1, h2, h3⟩
    cases rest with
    | nil => cases e2
    | cons p rest =>
      cases e2
      have hdl := congrArg List.length e1
      rw [List.length_append, List.length_cons] at hdl
      have hpn : p.1 ∈ ns := by rw [← hrow, ← e1]; simp
      obtain ⟨ways', e4, h4, h5, h6⟩ := law_shifts_ok (row := row) I S hrow hpn
      unfold tp2 at e4
      refine ⟨_, rfl, ?_⟩
      have hc : catL (.lst (ways.map wayD)) (.lst (ways'.map wayD)) = some ((ways ++ ways').map wayD) := by
        show sml (ways.map wayD ++ ways'.map wayD) = _
        rw [sml_of (by simp; omega), List.map_append]
      unfold wayD at hc e4
      simp [e4, hc]
      refine ⟨done ++ [p], rest, by rw [← e1]; simp, rfl, ways ++ ways', by simp, fun ps hps => ?_, fun en a b hab ps c s => ?_, by simp; omega⟩
      · rcases List.mem_append.mp hps with hps | hps
        · exact h1 ps hps
        · obtain ⟨c, hc⟩ := h4 ps hps
          exact ⟨p.1, c, hc⟩
      · obtain ⟨n1, n2⟩ := List.append_eq_nil_iff.mp en
        rcases List.mem_append.mp hab with hab | hab
        · exact h2 n1 (a, b) hab ps c s
        · have hab := List.mem_singleton.mp hab
          rw [← hab] at h5
          have := h5 ps c s
          rw [n2] at this
          cases this
  · rintro ρ' t' ⟨rfl, done, rest, ways, y8, y9, e1, e2, rfl, h1, h2, h3⟩
    cases rest with
    | cons _ _ => cases e2
    | nil =>
      rw [List.append_nil] at e1
      subst e1
      refine q ways y8 y9 ⟨h1, fun en t ht w c hc => Bool.eq_false_iff.mpr fun z => ?_, by omega⟩
      obtain ⟨ps, hps⟩ := hc.pth
      rw [← hrow] at ht
      obtain ⟨p, hp, rfl⟩ := List.mem_map.mp ht
      rw [hrow] at ht
      exact h2 en p hp ps c ⟨ht, w, hps, z⟩
  · exact fun _ _ z => False.elim z
theorem drawn_ok {tb : Tub} {n : Nat} (I : Ins ns mf cs) (S : Sea ns mf sd) (hrow : row.map (·.1) = ns) (hm : G__law_may [web, .tup (row.map tp2)] = some (.dct (tbD ns mf))) (h : Tb n tb) (hn : n ≤ 700000) {Q : D → Tub → Prop}
    (q : ∀ rows sd' t', Chain ns mf (lk sd) rows (lk sd') → Sea ns mf sd' → Stl ns mf (lk sd') → rows.length ≤ 256 → Tb (n + 256) t' → Q (.tup [.tup (rows.map wayD), .tup (sd'.map tp2)]) t') :
    W (G__law_drawn [.tub, web, .tup (row.map tp2), .tup (sd.map tp2)]) tb Q := by
  refine runD_W (n := 4) (m := 7) rfl ?_
  have hpow : 2 ^ ns.length ≤ 256 := Nat.le_trans (Nat.pow_le_pow_right (by decide) I.few) (by decide)
  have hvl := val_lt ns (lk sd)
  unfold F__law_drawn
  unfold tp2 at hm
  simp [hm]
  refine every_ok I S hrow fun ways x8 x9 ev => ?_
  simp
  refine W_while (fun m ρ t => ∃ (rows : List (List (Str × Str))) (sd' : List (Str × Str)) (ways : List (List (Str × Str))) (x8 x9 x10 : Option SV), ρ = [some (.val .tub), some (.val web), some (.val (.tup (row.map tp2))), some (.val (.tup (sd.map tp2))), some (.val (.lst (ways.map wayD))), some (.val (.dct (tbD ns mf))), some (.val (.tup (sd'.map tp2))), some (.val (.tup (rows.map wayD))), x8, x9, x10] ∧
      Sea ns mf sd' ∧ Chain ns mf (lk sd) rows (lk sd') ∧ Evy ns mf (lk sd') ways ∧ m + val ns (lk sd') = 2 ^ ns.length ∧ rows.length + m ≤ 256 ∧ Tb (n + rows.length) t)
    (Qn := fun ρ t => ∃ (rows : List (List (Str × Str))) (sd' : List (Str × Str)), ρ[7]? = some (some (.val (.tup (rows.map wayD)))) ∧ ρ[6]? = some (some (.val (.tup (sd'.map tp2)))) ∧ Chain ns mf (lk sd) rows (lk sd') ∧ Sea ns mf sd' ∧ Stl ns mf (lk sd') ∧ rows.length ≤ 256 ∧ Tb (n + rows.length) t) (R := fun _ _ => False) ?_ (m := 2 ^ ns.length - val ns (lk sd)) ⟨[], sd, ways, x8, x9, none, rfl, S, .nil, ev, by omega, by simp; omega, h⟩ (by omega) ?_ ?_
  · rintro m ρ t ⟨rows, sd', ways, x8, x9, x10, rfl, S', hc, ev, hmv, hrl, ht⟩
    have hnil := eqD_nil (ds := ways.map wayD) (k := 1) true (fun d hd => by
      obtain ⟨ps, hps, rfl⟩ := List.mem_map.mp hd
      obtain ⟨t, c, s⟩ := ev.are ps hps
      exact pd_way I (pth_in I S' s.1 s.2.2.1)) (by decide)
    simp at hnil
    simp [hnil]
    cases ways with
    | nil =>
      simp
      exact ⟨rows, rfl, sd', rfl, hc, S', ev.stl rfl, by omega, ht⟩
    | cons w0 ws =>
      simp
      have hfew := ev.few
      refine of_ok (ds := (w0 :: ws).map wayD) rfl (by simp) (by simp) (by rw [List.length_map]; omega) ht (by omega) fun z t2 hz h2 => ?_
      obtain ⟨ps, hps, rfl⟩ := List.mem_map.mp hz
      obtain ⟨t0, c0, s⟩ := ev.are ps hps
      have hpl := pth_len I S' s.1 s.2.2.1
      have hsl := S'.len I
      have he := law_moved_eq (ps := ps) S'.nd (by omega)
      have S2 := s.sea S'
      have hlk := Shf.lk (mf := mf) (ps := ps) S'
      have hup := val_up S'.va s I.nd
      rw [← hlk] at hup
      have hvl2 := val_lt ns (lk (srtP (putAll sd' ps)))
      have hcat : catT (.tup (rows.map wayD)) (.tup [wayD ps]) = some (.tup ((rows ++ [ps]).map wayD)) := by
        show (sml (rows.map wayD ++ [wayD ps])).map D.tup = _
        rw [sml_of (by simp; omega), List.map_append]
        rfl
      unfold wayD tp2 at he
      unfold wayD at hcat
      simp [hcat, he]
      refine every_ok I S2 hrow fun ways' y8 y9 ev' => ?_
      refine ⟨2 ^ ns.length - val ns (lk (srtP (putAll sd' ps))), by omega, rows ++ [ps], srtP (putAll sd' ps), ways', ⟨_, _, _, by simp; exact ⟨rfl, rfl, rfl⟩⟩, S2, ?_, ev', by omega, by simp; omega, h2.mono (by simp; omega)⟩
      rw [hlk]
      exact hc.snoc s
  · rintro ρ' t' ⟨rows, sd', h7, h6, hc, S', hst, hl, ht⟩
    simp [h7, h6]
    exact q rows sd' t' hc S' hst hl (ht.mono (by omega))
  · exact fun _ _ z => False.elim z
end
end MM
/-! Q25 -/
namespace MM
open PySem Q
/-! ### a draw's turn is right -/
@[simp] theorem idxL_tup1 (x y : D) (xs : List D) : idxL (.tup (x :: y :: xs)) (.int 1) = some y := L2.atI_nat (j := 1) (xs := x :: y :: xs) rfl
theorem eqD_self {d : D} {k : Nat} (h : Pd k d) (hk : k ≤ 64 := by decide) : eqD false d d = some (.bl true) := by
  obtain ⟨a, a1, a2, a3⟩ := h
  have hs := shaped_of a2 a3 hk
  have hr : PyData.eqv a a = true := PySem.SeqAt.eqv_refl a a2
  unfold eqD eqB
  rw [a1]
  simp [hs, hr]
theorem same5 : G__law_same 8 [.lst [.bl true, .bl true, .bl true, .bl true, .bl true], .lst [.bl true, .bl true, .bl true, .bl true, .bl true]] = some (.bl true) := isT1_some (by decide +kernel)
theorem same1 (b : Bool) : G__law_same 8 [.bl b, .bl b] = some (.bl true) := by
  cases b <;> exact isT1_some (by decide +kernel)
theorem back_le (xs : List D) : (stepOf xs none (-1)).length ≤ xs.length + 1 := by
  unfold stepOf
  refine Nat.le_trans (List.length_filterMap_le _ _) ?_
  rw [List.length_range]
  have e1 : Builtin.Slice.sliceAdjust none none (-1) (xs.length : Int) = ((xs.length : Int) - 1, -1) := rfl
  rw [e1]
  unfold Builtin.Slice.slicePlaces
  simp only [show ¬ ((-1 : Int) > 0) by decide, if_false]
  split
  · have : (- (-1 : Int)) = 1 := by decide
    rw [this, Int.ediv_one]
    omega
  · simp
theorem back_mem {xs : List D} {d : D} (h : d ∈ stepOf xs none (-1)) : d ∈ xs := by
  unfold stepOf at h
  obtain ⟨m, _, e⟩ := List.mem_filterMap.mp h
  exact List.mem_of_getElem? e
theorem cut_mem {xs : List D} {lo hi : Option Int} {d : D} (h : d ∈ cutD xs lo hi) : d ∈ xs := List.mem_of_mem_drop (List.mem_of_mem_take h)
theorem cut_le (xs : List D) (lo hi : Option Int) : (cutD xs lo hi).length ≤ xs.length := by
  unfold cutD
  rw [List.length_take, List.length_drop]
  omega
theorem bent {rows : List (List (Str × Str))} : ∀ {ds : List D}, (∀ d ∈ ds, d ∈ rows.map wayD) → ∃ r2 : List (List (Str × Str)), ds = r2.map wayD ∧ ∀ ps ∈ r2, ps ∈ rows
  | [], _ => ⟨[], rfl, fun _ h => nomatch h⟩
  | d :: ds, h => by
    obtain ⟨r2, e, h2⟩ := bent (rows := rows) fun x hx => h x (List.mem_cons_of_mem _ hx)
    obtain ⟨ps, hps, e1⟩ := List.mem_map.mp (h d List.mem_cons_self)
    refine ⟨ps :: r2, by rw [e, ← e1]; rfl, fun x hx => ?_⟩
    rcases List.mem_cons.mp hx with rfl | hx
    · exact hps
    · exact h2 x hx
section
variable {ns : List Str} {mf : Str → List Str} {cs : List Str} {sd row : List (Str × Str)} {t : Str} {book ready seating web : D}
theorem pth_in2 (I : Ins ns mf cs) {f : Str → Option Str} (v : Va ns mf f) (ht : t ∈ ns) {ps : List (Str × Str)} {c : Str} (h : Pth mf f t ps c) : ∀ p ∈ ps, p.1 ∈ ns ∧ p.2 ∈ cs := by
  induction h with
  | one h =>
    intro p hp
    rw [List.mem_singleton.mp hp]
    exact ⟨ht, I.sub _ ht _ h⟩
  | ext h0 e h n ih =>
    intro p hp
    rcases List.mem_append.mp hp with hp | hp
    · exact ih p hp
    · rw [List.mem_singleton.mp hp]
      have hm := v.mem _ _ e
      exact ⟨hm, I.sub _ hm _ h⟩
theorem chain_rdy (I : Ins ns mf cs) {f g : Str → Option Str} {rows : List (List (Str × Str))} (h : Chain ns mf f rows g) : Va ns mf f → Rdy ns cs rows := by
  induction h with
  | nil => exact fun _ _ h => nomatch h
  | cons s _ ih =>
    intro v ps hps
    rcases List.mem_cons.mp hps with rfl | hps
    · obtain ⟨ht, hw, hp, _⟩ := s
      have hin := pth_in2 I v ht hp
      refine ⟨pth_ne hp, ?_, hin⟩
      have := sub_len hp.nodup (cs := cs) fun x hx => by
        obtain ⟨p, hp', rfl⟩ := List.mem_map.mp hx
        exact (hin p hp').2
      rw [List.length_map] at this
      have := I.cfew
      omega
    · exact ih (s.2.2.1.va v s.2.1 s.1) ps hps
end
def gotB (b : Bool) : D := .bl b
theorem right_ok {tb : Tub} (h : Tb 0 tb) : W (G__law_right [.tub]) tb fun d _ => d = .bl true := by
  refine runD_W (n := 1) (m := 10) rfl ?_
  unfold F__law_right
  have s5 : ∀ a b c d e : D, sml [a, b, c, d, e] = some [a, b, c, d, e] := fun _ _ _ _ _ => rfl
  have s4 : ∀ a b c d : D, sml [a, b, c, d] = some [a, b, c, d] := fun _ _ _ _ => rfl
  simp
  refine W_for (fun xs ρ t => ∃ (x1 x2 x3 x4 x5 x6 x7 x8 x9 x10 : Option SV), ρ = [some (.val .tub), x1, x2, x3, x4, x5, x6, x7, x8, x9, x10] ∧ xs.length ≤ 8 ∧ Tb (1000 * (8 - xs.length)) t) (R := fun d _ => d = .bl true) ?_ ⟨none, none, none, none, none, none, none, none, none, none, rfl, by decide, h.mono (by decide)⟩ ?_ ?_
  · rintro x0 xs ρ t ⟨x1, x2, x3, x4, x5, x6, x7, x8, x9, x10, rfl, hx, ht⟩
    have hx : xs.length + 1 ≤ 8 := hx
    have ht : Tb (1000 * (8 - (xs.length + 1))) t := ht
    refine ⟨_, rfl, ?_⟩
    simp
    refine web_ok ht (by omega) fun tags ks t1 Wb h1 => ?_
    refine row_ok Wb h1 (by omega) fun row t2 R h2 => ?_
    have I := ins_ok Wb R
    have B := bk_tp Wb R
    have hm := law_may_ok Wb R
    refine seats_ok I rfl hm h2 (by omega) fun sd t3 S h3 => ?_
    refine drawn_ok I S rfl hm h3 (by omega) fun rows sd' t4 hc S' hst hl h4 => ?_
    obtain ⟨rs, g, eS, hcS, hstS, hlS⟩ := settling_ok I S B (seat_tp S.nd (Nat.le_trans (S.len I) (by decide)))
    have hrS := chain_rdy I hcS S.va
    have hrW := chain_rdy I hc S.va
    obtain ⟨b1, eH, hH⟩ := law_shows_ok (row := row) I S rfl hm hrS
    have hH := hH.mpr ⟨g, hcS, hstS⟩
    subst hH
    obtain ⟨b2, eI1, hI1⟩ := is_settling_ok I S B (seat_tp S.nd (Nat.le_trans (S.len I) (by decide))) hrS
    have hI1 := hI1.mpr ⟨g, hcS, hstS⟩
    subst hI1
    obtain ⟨b3, eI2, hI2⟩ := is_settling_ok I S B (seat_tp S.nd (Nat.le_trans (S.len I) (by decide))) hrW
    have hI2 := hI2.mpr ⟨_, hc, hst⟩
    subst hI2
    have eD := ideal_ok I B S' hst
    have hsl := S.len I
    have hsl' := S'.len I
    have eL := settling_same I S (bk_ls Wb R) B (seat_ls S.nd (by omega)) (seat_tp S.nd (by omega)) (by
      rw [tupled_rows 5 ls2 rfl rfl (by omega) (fun _ => rfl) fun _ => rfl, tupled_rows 5 tp2 rfl rfl (by omega) (fun _ => rfl) fun _ => rfl])
    rw [eS] at eL
    have eq1 : eqD false (.tup (rs.map wayD)) (.tup (rs.map wayD)) = some (.bl true) := eqD_self (k := 2) (pd_tup fun d hd => by
      obtain ⟨ps, hps, rfl⟩ := List.mem_map.mp hd
      exact pd_way I (hrS ps hps).2.2)
    have eq2 : eqD false (sT (srt (sd'.map (·.2)))) (sT (srt (sd'.map (·.2)))) = some (.bl true) := eqD_self (k := 1) (pd_tup fun d hd => by
      obtain ⟨x, hx, rfl⟩ := List.mem_map.mp hd
      have hx := (srt_perm _).mem_iff.mp hx
      obtain ⟨c, hc⟩ := (run_vals S'.nd x).mp hx
      exact pd_str (I.sok x (.inl (S'.va.mem _ _ hc))))
    have lW := lists_web Wb
    have lR := lists_rows (sd := row) (Nat.le_trans R.few (by decide))
    have lS := lists_rows (sd := sd) (by omega)
    have bnt : ∀ rows2 : List (List (Str × Str)), (∀ ps ∈ rows2, ps ∈ rows) → ∃ b, G__law_shows [webD tags ks, .tup (row.map tp2), .tup (sd.map tp2), .tup (rows2.map wayD)] = some (.bl b) ∧ G_is_settling [webD tags ks, .tup (row.map tp2), .tup (sd.map tp2), .tup (rows2.map wayD)] = some (.bl b) := fun rows2 h2 => by
      have hr2 : Rdy (row.map (·.1)) tags rows2 := fun ps hps => hrW ps (h2 ps hps)
      obtain ⟨b4, e4, h4⟩ := law_shows_ok (row := row) I S rfl hm hr2
      obtain ⟨b5, e5, h5⟩ := is_settling_ok I S B (seat_tp S.nd (by omega)) hr2
      have : b4 = b5 := Bool.eq_iff_iff.mpr (h4.trans h5.symm)
      subst this
      exact ⟨b4, e4, e5⟩
    obtain ⟨wb, hwb⟩ : ∃ wb, wb = webD tags ks := ⟨_, rfl⟩
    obtain ⟨rw', hrw⟩ : ∃ r, r = D.tup (row.map tp2) := ⟨_, rfl⟩
    obtain ⟨st, hst'⟩ : ∃ r, r = D.tup (sd.map tp2) := ⟨_, rfl⟩
    obtain ⟨wy, hwy⟩ : ∃ r, r = D.tup (rows.map wayD) := ⟨_, rfl⟩
    obtain ⟨hr, hhr⟩ : ∃ r, r = D.tup (sd'.map tp2) := ⟨_, rfl⟩
    obtain ⟨sy, hsy⟩ : ∃ r, r = D.tup (rs.map wayD) := ⟨_, rfl⟩
    obtain ⟨wl, hwl⟩ : ∃ r, r = webL tags ks := ⟨_, rfl⟩
    obtain ⟨rl, hrl⟩ : ∃ r, r = D.lst (row.map ls2) := ⟨_, rfl⟩
    obtain ⟨sl, hsl⟩ : ∃ r, r = D.lst (sd.map ls2) := ⟨_, rfl⟩
    have hhq : seqOf hr = some (sd'.map tp2) := by rw [hhr]; rfl
    obtain ⟨L, hL⟩ : ∃ L, L = rows.map wayD := ⟨_, rfl⟩
    have hLl : L.length ≤ 256 := by rw [hL, List.length_map]; exact hl
    have hwt : tupD wy = some L := by rw [hwy, hL]; rfl
    have hneg : iI (fun i j => some (i - j)) (.int 0) (.int 1) = some (.int (-1)) := rfl
    have hsb : sml (stepOf L none (-1)) = some (stepOf L none (-1)) := sml_of (by have := back_le L; omega)
    have hct : catT wy (.tup (cutD L none (some 1))) = some (.tup (L ++ cutD L none (some 1))) := by
      have : wy = .tup L := by rw [hwy, hL]
      rw [this]
      show (sml (L ++ cutD L none (some 1))).map D.tup = _
      rw [sml_of (by have := cut_le L none (some 1); simp; omega)]
      rfl
    have hrep : repL (.lst [.bl true]) (.int 5) = some [.bl true, .bl true, .bl true, .bl true, .bl true] := rfl
    have hall : ∀ x ∈ [D.tup (cutD L none (some (-1))), .tup (stepOf L none (-1)), .tup (L ++ cutD L none (some 1)), .tup (cutD L (some 1) none)], ∃ r2 : List (List (Str × Str)), x = .tup (r2.map wayD) ∧ ∀ ps ∈ r2, ps ∈ rows := by
      have gen : ∀ ds : List D, (∀ d ∈ ds, d ∈ L) → ∃ r2 : List (List (Str × Str)), D.tup ds = .tup (r2.map wayD) ∧ ∀ ps ∈ r2, ps ∈ rows := fun ds h => by
        rw [hL] at h
        obtain ⟨r2, e, h2⟩ := bent h
        exact ⟨r2, by rw [e], h2⟩
      intro x hx
      simp only [List.mem_cons, List.not_mem_nil, or_false] at hx
      rcases hx with rfl | rfl | rfl | rfl
      · exact gen _ fun d hd => cut_mem hd
      · exact gen _ fun d hd => back_mem hd
      · exact gen _ fun d hd => (List.mem_append.mp hd).elim id cut_mem
      · exact gen _ fun d hd => cut_mem hd
    rw [← hwb, ← hrw] at eS eH eI1 eI2 eD bnt
    rw [← hst'] at eS eH eI1 eI2 bnt
    rw [← hsy] at eS eH eI1 eL eq1
    rw [← hwy] at eI2
    rw [← hwb, ← hwl] at lW
    rw [← hrw, ← hrl] at lR
    rw [← hst', ← hsl] at lS
    rw [← hwl, ← hrl, ← hsl] at eL
    rw [← hwb, ← hrw, ← hst', ← hwy, ← hhr]
    simp [eS, eH, eI1, eI2, eD, eL, lW, lR, lS, eq1, hhq, catL, appE]
    rw [sml_of (by rw [List.length_map]; omega), W_lft]
    refine W_comp tp2 (fun _ => true) (fun p => D.str p.2) sd' (fun p hp => ⟨_, rfl, ?_, fun _ => ?_⟩) ?_
    · simp
    · simp
    have ef : (List.filter (fun _ => true) sd') = sd' := List.filter_eq_self.mpr fun _ _ => rfl
    have em2 : (sd'.map fun p => D.str p.2) = (sd'.map (·.2)).map D.str := by rw [List.map_map]; rfl
    rw [ef, em2, sort_strs (by rw [List.length_map]; omega), W_lft]
    refine W_lft' eq2 ?_
    refine W_lft' rfl ?_
    simp [hrep, same5, hwt, hsb, hct]
    rw [s4, W_lft]
    refine W_for (fun ys ρ t => t = t4 ∧ (∀ x ∈ ys, ∃ r2 : List (List (Str × Str)), x = .tup (r2.map wayD) ∧ ∀ ps ∈ r2, ps ∈ rows) ∧ ∃ (x1 x5 x6 x7 x8 x9 x10 : Option SV), ρ = [some (.val .tub), x1, some (.val wb), some (.val rw'), some (.val st), x5, x6, x7, x8, x9, x10]) (R := fun _ _ => False) ?_ ⟨rfl, hall, _, _, _, _, _, _, _, rfl⟩ ?_ ?_
    · rintro x ys ρ t ⟨rfl, hy, x1, x5, x6, x7, x8, x9, x10, rfl⟩
      obtain ⟨r2, rfl, h2⟩ := hy x List.mem_cons_self
      obtain ⟨b, e4, e5⟩ := bnt r2 h2
      obtain ⟨z, hz⟩ : ∃ z, z = D.tup (r2.map wayD) := ⟨_, rfl⟩
      rw [← hz] at e4 e5
      rw [← hz]
      refine ⟨_, rfl, ?_⟩
      simp [e4, e5, same1]
      exact fun x hx => hy x (List.mem_cons_of_mem _ hx)
    · rintro ρ' t' ⟨rfl, _, y1, y5, y6, y7, y8, y9, y10, rfl⟩
      exact ⟨⟨_, _, _, _, _, _, _, _, _, _, rfl⟩, by omega, h4.mono (by omega)⟩
    · exact fun _ _ z => False.elim z
  · rintro ρ' t' ⟨x1, x2, x3, x4, x5, x6, x7, x8, x9, x10, rfl, _, _⟩
    simp
  · rintro d t' h
    exact h
end MM
/-! E2 -/
namespace MM
open PySem PySem.Spec PyProof.Rows L2
/-! ## a def that returns a list just made -/
section
variable {T : Type} {k : Kx} {C : Cell T} {X : Cx} {e : Expr} {pos : Pos} {st : Stmt} {sts : List Stmt} {f : FS T} {fl : FL T}
def tSL (k : Kx) (C : Cell T) (f : FL T) : TS := fun N σ H => ∃ E0 En H0 ρ t es t', RS k C E0 En H0 H σ ρ t ∧ f ρ t = some (es, t') ∧
  ∀ H0' H' p us, Go C E0 En H0' H' → Ex H0' H' → C.rep t' H' → En p = none → H0' p = none → H' p = some (.lst us) → RpA k H0' es us → N.rt (.ref p) H'
theorem sl_ret (ha : EL k C X e fl) : PSs X [.Return (some e) pos] (tSL k C fl) := pss_one (ps_imp (ps_ret ha) fun N σ H ⟨E0, En, H0, ρ, t, es, t', R, ev, q⟩ =>
  ⟨E0, En, H0, ρ, t, es, t', R, ev, fun H1 H1' p us R1 g1 np n0 hp r => q _ _ _ _ R1.go R1.sub R1.rep (R.go.trk _ np) n0 hp r⟩)
theorem sl_cons (h : SS k C X st f) (h2 : PSs X sts (tSL k C fl)) : PSs X (st :: sts) (tSL k C fun ρ => bnd (f ρ) fun o => match o with
      | .nx ρ' => fl ρ'
      | _ => fun _ => none) := pss_imp (pss_cons h h2) fun N σ H ⟨E0, En, H0, ρ, t, es, t', R, ev, q⟩ => by
  obtain ⟨o1, t1, e1, e2⟩ := bnd_some ev
  refine ⟨E0, En, H0, ρ, t, o1, t1, R, e1, ?_⟩
  cases o1 with
  | nx ρ1 => exact fun H0' H' σ' R' ex => ⟨E0, En, H0', ρ1, t1, es, t', R', e2, q⟩
  | rt d => cases e2
  | bk ρ1 => cases e2
  | ct ρ1 => cases e2
def spL (k : Kx) (C : Cell T) (n : Nat) (G : List D → M T (List D)) : Sp := fun vs H Q _ => ∃ H0 ds t es t', Ex H0 H ∧ ((∀ a, C.mu a → H a ≠ none ∧ H0 a = none) ∧ ∀ a ps, H a = some (.tbl ps) → C.mu a) ∧ C.rep t H ∧ RpA k H0 ds vs ∧ ds.length = n ∧ G ds t = some (es, t') ∧
  ∀ H0' H' p us, Go C H0 H H0' H' → Ex H0' H' → C.rep t' H' → H p = none → H0' p = none → H' p = some (.lst us) → RpA k H0' es us → Q (.ref p) H'
def runL (n m : Nat) (F : FL T) (ds : List D) : M T (List D) := if ds.length = n then F (ds.map (fun d => some (.val d)) ++ List.replicate m none) else fun _ => none
structure DfL (P : Program) (w : World) (K : PySem.W.Frag) (mg : Str → Option Value) (base : Heap) (k : Kx) (C : Cell T) (lv : Nat) (x : Str) (n : Nat) (G : List D → M T (List D)) : Prop where
  ex : ∃ f fd ps, FnOk P w K mg base CX0 lv f fd ps (spL k C n G) ∧ mg x = some (.ref f) ∧ PySem.W.keepIn K (.ref f) = true ∧ Binds K fd ps []
theorem dfL_of {P : Program} {w : World} {K : PySem.W.Frag} {mg : Str → Option Value} {base : Heap} {x : Str} {st : Stmt} {N ps : List Str} {lv : Nat} {F : FL T} (Fd : Ds K mg x st ps) (S : FnScope N ps (defScope st)) (hl : ps.length ≤ N.length)
    (hb : ∀ (f : Addr) (cdv : Value) (A : Around) (outer : List PySem.Env) (s : Shared) (H : Hp) (E : XK), Room lv (A.deeper (envOfC x (defScope st) s.heap.objs.size f cdv)) → PSs (cx0 P w K mg base N x st f cdv A outer s H E) (defBody st) (tSL k C F)) :
    DfL P w K mg base k C (lv + 1) x ps.length (runL ps.length (N.length - ps.length) F) := by
  obtain ⟨f, fd, a, b, c⟩ := Fd.ex
  refine ⟨f, fd, ps, a.ok S (fun vs H Q E h => ?_) (fun cdv A outer s H vs Q E hr h => ?_), b, a.kp, c⟩
  · obtain ⟨H0, ds, t, d, t', _, _, _, ra, hn, _⟩ := h
    rw [← ra.length, hn]
  · obtain ⟨H0, ds, t, d, t', s0, m, r, ra, hn, e, q⟩ := h
    refine ⟨_, PSs.nox (hb f cdv A outer s H E hr), ?_⟩
    unfold runL at e
    rw [if_pos hn] at e
    have R0 := rs_start (N := N) s0 m r ra (by rw [hn]; exact hl)
    rw [hn] at R0
    exact ⟨H0, H, H0, _, t, d, t', R0, e, fun H0' H' p us g s1 r1 np n0 hp ru => q H0' H' p us g s1 r1 np n0 hp ru⟩
end
/-! ## _law_box -/
section
variable {k : Kx} {C : Cell Unit} {P : Program} {w : World} {K : PySem.W.Frag} {mg : Str → Option Value} {base : Heap}
theorem ok_pow18 {k : Kx} {T : Type} {C : Cell T} {X : Cx} {j1 j2 : Nat} {q1 q2 q3 : Pos} : ED k C X (.BinOp (.Constant (.int 10) j1 q1) .Pow (.Constant (.int 18) j2 q2) q3) (cI 1000000000000000000) :=
  ed_c (v := .int 1000000000000000000) (pe_imp (pe_op op_pow pe_int pe_int) fun σ H Q q => ⟨10, 18, rfl, rfl, ⟨by decide, by decide, by decide⟩, q⟩) fun _ => .int _
abbrev N__law_box : List Str := ["_law_script", "_law_k", "_law_cell"]
def F__law_box : FL Unit := fun ρ => bnd (sSet 2 (eIf (tst (o2 (iB fun i j => decide (i < j)) (xB 1) (o1 lenD (xB 0)))) (o2 idxL (xB 0) (xB 1)) (cI 0)) ρ) fun o => match o with
  | .nx ρ' => lLst (aC (o2 (iI mulI) (o1 absD (xB 2)) (o1 intD (o2 (iB fun i j => decide (j ≤ i)) (o1 absD (xB 2)) (cI 1000000000000000000))))
    (aC (o2 (iI fun i j => some (i + j)) (o2 (iI fun i j => some (i + j)) (o2 (iI modI) (o1 intD (xB 2)) (cI 2305843009213693951)) (o2 (iI mulI) (cI 39373) (xB 1))) (cI 1190829)) (aC (cI 0) aN))) ρ'
  | _ => fun _ => none
def G__law_box : List D → M Unit (List D) := runL 2 1 F__law_box
theorem d__law_box (B : Bi mg) (Dd : Ds K mg "_law_box" (top 36) ["_law_script", "_law_k"]) : DfL P w K mg base k C (0 + 1) "_law_box" 2 G__law_box :=
  dfL_of (N := N__law_box) (lv := 0) (F := F__law_box) Dd (C8.fnScope_by (by decide)) (by decide) fun f cdv A outer s H E hr => have nd : (N__law_box).Nodup := by decide
    sl_cons (ss_set 2 nd (ed_if (et_cmp op_lt ok_B (eb_var 1) (eb_of (ed_b1 call_len c_len B.len (by rfl) (eb_var 0)))) (ed_ix ix_lt ok_ix (eb_var 0) (eb_var 1)) ed_int))
      (sl_ret (el_lst (ea_cons (ed_op op_mul ok_mul (eb_of (ed_b1 call_abs c_abs B.abs (by rfl) (eb_var 2))) (eb_of (ed_t1 call_int1 c_int B.int (by rfl) (eb_of (ed_cmp op_ge ok_B (eb_of (ed_b1 call_abs c_abs B.abs (by rfl) (eb_var 2))) (eb_of ok_pow18))))))
        (ea_cons (ed_op op_add ok_I0 (eb_of (ed_op op_add ok_I0 (eb_of (ed_op op_mod ok_mod (eb_of (ed_t1 call_int1 c_int B.int (by rfl) (eb_var 2))) (eb_of ed_int))) (eb_of (ed_op op_mul ok_mul (eb_of ed_int) (eb_var 1))))) (eb_of ed_int)) (ea_cons ed_int ea_nil)))))
end
end MM
/-! E7 -/
namespace MM
open PySem Q
theorem hand_ok : G__law_by_hand_right [] = some (.bl true) := isT1_some (by decide +kernel)
end MM
/-! E8 -/
namespace MM
open PySem PySem.Spec PyProof.Rows L2
/-! ## _law_right(_law_box(cells, k)) -/
def boxD (ds : List D) : Option D := if ds.length = 2 then (match G__law_box ds () with
    | some ([.int _, .int _, .int z], _) => if z = 0 then some (.bl true) else none
    | _ => none) else none
theorem boxD_some {ds : List D} {r : D} (h : boxD ds = some r) : ds.length = 2 ∧ r = .bl true ∧ ∃ x y, G__law_box ds () = some ([.int x, .int y, .int 0], ()) := by
  unfold boxD at h
  split at h
  · next hl =>
    split at h
    · next x y z u e =>
      split at h
      · next hz =>
        cases h
        subst hz
        exact ⟨hl, rfl, x, y, e⟩
      · cases h
    · cases h
  · cases h
section
variable {k : Kx} {C : Cell Unit} {X : Cx} {live : Option Bool} {lvR lvB : Nat} {e1 e2 : Expr} {pos p pos2 p2 : Pos} {fa : Env → M (List Int) (List D)}
theorem ed_rb (hn : live ≠ none → ¬ C.mu k.pt) (FR : DfA X.prog X.w X.K X.mg X.base lvR "_law_right" (fun i : { p : Addr // ¬ C.mu p } => spD ⟨i.1, k.oc⟩ (Ct C i.1) 1 G__law_right)) (FB : DfL X.prog X.w X.K X.mg X.base k C lvB "_law_box" 2 G__law_box) (hrR : Room lvR X.A) (hrB : Room lvB X.A)
    (ha : EA k (Cs C X.K k.pt live) X [e1, e2] fa) (hgR : Gl X "_law_right" := by rfl) (hgB : Gl X "_law_box" := by rfl)
    (hs : starEach [.Call (.Name "_law_box" p2) [e1, e2] [] pos2] X.env = (false, eval (.Call (.Name "_law_box" p2) [e1, e2] [] pos2) X.env) :: starEach [] X.env := by rfl) (hpl : (backTo pos (starEach [] X.env)).any (·.1) = false := by rfl)
    (hs2 : starEach (e1 :: [e2]) X.env = (false, eval e1 X.env) :: starEach [e2] X.env := by rfl) (hpl2 : (backTo pos2 (starEach [e2] X.env)).any (·.1) = false := by rfl) :
    ED k (Cs C X.K k.pt live) X (.Call (.Name "_law_right" p) [.Call (.Name "_law_box" p2) [e1, e2] [] pos2] [] pos) (fun ρ => bnd (fa ρ) fun ds => lft (boxD ds)) := by
  obtain ⟨fR, fdR, psR, aR, bR, cR, dR⟩ := FR.ex
  obtain ⟨fB, fdB, psB, aB, bB, cB, dB⟩ := FB.ex
  refine pe_imp (pe_call (DfA.one (x := "_law_right") aR) hrR hgR bR cR dR .nil pass0 (pa_cons (pe_call aB hrB hgB bB cB dB .nil pass0 ha (by decide) hs2 hpl2) pa_nil hs) (by decide) hs hpl) fun σ H Q ⟨E0, En, H0, ρ, t, r, t', R, ev, q⟩ => ?_
  obtain ⟨ds, t1, e1, ev2⟩ := bnd_some ev
  obtain ⟨e3, rfl⟩ := lft_some ev2
  obtain ⟨hl, rfl, x, y, hbox⟩ := boxD_some e3
  have le := cs_le (C := C) (K := X.K) (a := k.pt) (live := live) hn
  refine ⟨E0, En, H0, ρ, t, ds, t', R, e1, fun H1 H1' vs R1 g1 r1 => ⟨H1, ds, (), _, (), R1.sub, ⟨fun a m => ⟨(R1.nomut (le.mu a m)).2, (R1.nomut (le.mu a m)).1⟩, fun a ps e => (le.tb a (R1.tb a ps e)).elim id fun q => absurd e (q _ _ ps R1.rep)⟩, le.rep _ _ R1.rep, by rw [List.append_nil]; exact r1, hl, hbox, fun H2 H2' b us g2 s2 rep2 np n0 hp ru => ?_⟩⟩
  have hbC : ¬ C.mu b := fun z => (R1.nomut (.inl z)).2 np
  obtain rfl : us = tub3 (x, y, 0) := by
    cases ru with
    | cons a ru => cases ru with
      | cons b ru => cases ru with
        | cons c ru => cases ru; cases a; cases b; cases c; rfl
  obtain ⟨dR', tR, hright, rfl⟩ := right_ok (tb := (x, y, 0)) ⟨Int.le_refl _, Int.le_refl _⟩
  have old : ∀ a o, H1' a = some o → ¬ C.mu a → H2' a = some o ∧ a ≠ b := fun a o e n => ⟨g2.act a o e n, fun z => by rw [z, np] at e; cases e⟩
  refine ⟨⟨b, hbC⟩, fun _ => none, [.tub], (x, y, 0), .bl true, tR, (fun _ _ e => nomatch e), ⟨fun a m => ⟨?_, rfl⟩, fun a ps e => ?_⟩, ⟨rep2, hp⟩, .cons .tub .nil, rfl, hright, fun H3 H3' v g3 s3 rep3 rv => ?_⟩
  · rcases m with rfl | m
    · rw [hp]; exact fun z => nomatch z
    · exact fun z => (R1.nomut (.inl m)).2 (g2.trk a z)
  · rcases g2.ntb a ps e with ⟨qs, e4⟩ | m
    · exact .inr ((le.tb a (R1.tb a qs e4)).elim id fun q => absurd e4 (q _ _ qs R1.rep))
    · exact .inr m
  · cases rv
    have act3 : ∀ a o, H1' a = some o → ¬ C.mu a → H3' a = some o := fun a o e n => by
      obtain ⟨z1, z2⟩ := old a o e n
      exact g3.act a o z1 fun m => m.elim z2 n
    have gg : Go (Cs C X.K k.pt live) H1 H1' H2 H3' := ⟨g2.base, fun a o e n => act3 a o e fun z => n (.inl z), g2.nof, fun a z => g2.trk a (g3.trk a z), fun a ps e => by
      rcases g3.ntb a ps e with ⟨qs, e4⟩ | m | m
      · exact (g2.ntb a qs e4).imp id .inl
      · rw [m, rep3.2] at e; cases e
      · exact .inr (.inl m)⟩
    have ss : Ex H2 H3' := fun a o e => g3.act a o (s2 a o e) fun m => m.elim (fun z => by rw [z, n0] at e; cases e) fun m => by
      have := g2.nof a (R1.nomut (.inl m)).2 (R1.nomut (.inl m)).1
      rw [this] at e
      cases e
    exact q _ _ _ (R1.step gg ss (le.back _ _ _ R1.rep rep3.1 act3)) (g1.trans gg) (.bl true)
end
/-! ## _law_cells -/
def orL {T : Type} (f g : FL T) : FL T := fun ρ => bnd (f ρ) fun xs => match xs with
      | [] => g ρ
      | x :: xs => ret (x :: xs)
@[simp] abbrev iEnL {T : Type} (f : FD T) : FL T := fun ρ => bnd (f ρ) fun x => bnd (lft (lstD x)) fun xs => ret (enumL 0 xs)
@[simp] abbrev sIxS {T : Type} (i : Nat) (f g : FD T) : FS T := fun ρ => bnd (f ρ) fun d => bnd (g ρ) fun z => lft (setE i z d ρ)
abbrev N__law_cells : List Str := ["_law_script", "_law_most_so", "_law_cells_so", "_law_k", "_law_far_so", "_law_spot_so"]
def F__law_cells : FS (List Int) := seqS (sSetL 2 (orL (l1 seqOf (oL (scrF 0 pN (pS (xV 1))))) (lLst (aC (cI 0) aN))))
  (seqS (sFor (iEnL (oL (scrF 0 (pS (xV 1)) (pS (cI 63))))) (bd2 3 4) (seqS (sSet 5 (o2 (iI modI) (o1 intD (xB 3)) (xB 1)))
    (sIxS 2 (o2 (iI fun i j => some (i + j)) (o2 idxL (xB 2) (xB 5)) (o2 (iI mulI) (xB 4) (o2 (iI fun i j => some (i + j)) (xB 3) (cI 2)))) (xV 5)))) (sRetO 2))
def G__law_cells : List D → M (List Int) D := runD 2 4 F__law_cells
section
variable {k : Kx} {C : Cell Unit} {P : Program} {w : World} {K : PySem.W.Frag} {mg : Str → Option Value} {base : Heap} {live : Option Bool}
theorem d__law_cells (B : Bi mg) (Dd : Ds K mg "_law_cells" (top 38) ["_law_script", "_law_most_so"]) : Df P w K mg base k (Cs C K k.pt live) (0 + 1) "_law_cells" 2 G__law_cells :=
  df_of (N := N__law_cells) (lv := 0) (F := F__law_cells) Dd (C8.fnScope_by (by decide)) (by decide) fun f cdv A outer s H E hr => have nd : (N__law_cells).Nodup := by decide
    sb_cons (ss_setL 2 nd (el_orL (el_t1 call_list_of c_list B.list (by rfl) (eb_of (ed_ofL (el_scr 0 eo_none (eo_some (ed_var 1)))))) (el_lst (ea_cons ed_int ea_nil))))
      (sb_cons (ss_for PassesOwn.never rfl (wi_enumL B.enumerate (ed_ofL (el_scr 0 (eo_some (ed_var 1)) (eo_some ed_int)))) (gt_two 3 4 rfl nd)
        (sb_cons (ss_set 5 nd (ed_op op_mod ok_mod (eb_of (ed_t1 call_int1 c_int B.int (by rfl) (eb_var 3))) (eb_var 1)))
          (sb_one (ss_setix 2 (ed_op op_add ok_I0 (eb_of (ed_ix ix_lt ok_ix (eb_var 2) (eb_var 5))) (eb_of (ed_op op_mul ok_mul (eb_var 4) (eb_of (ed_op op_add ok_I0 (eb_var 3) (eb_of ed_int)))))) (ed_var 5)))))
        (sb_one (ss_retO 2)))
/-! ## law -/
abbrev N_law : List Str := ["_law_script", "_law_cells_so", "_law_k"]
def F_law : FS (List Int) := seqS (sIf (tNot (tst (cP0 G__law_by_hand_right))) (sRet (cB false)) sNil) (seqS (sSet 1 (cT 2 G__law_cells (aC (xV 0) (aC (cI 2) aN))))
  (sRet (o1 allD (oL (lcF (iRng (o1 lenD (xB 1))) (bd1 2) ifT (fun ρ => bnd (aC (xV 1) (aC (xV 2) aN) ρ) fun ds => lft (boxD ds)) [2])))))
def G_law : List D → M (List Int) D := runD 1 2 F_law
end
end MM
/-! E9 -/
namespace MM
open PySem PySem.Spec PyProof.Rows L2
structure LI (Pt : Addr) where
  ex : Addr → Prop
  a : Addr
  live : Option Bool
  hn : live ≠ none → ¬ (Cb Pt ex).mu a
section
variable {P : Program} {w : World} {K : PySem.W.Frag} {mg : Str → Option Value} {base : Heap} {Pt oc : Addr}
theorem d_law (B : Bi mg) {f : Addr} {fd : FuncData} (Fd : FunD K "law" "law" (defArgs (top 56)) (defBody (top 56)) (defScope (top 56)) [] [] f fd) (c_hand : ∀ ex p, Df P w K mg base ⟨p, oc⟩ (Cb Pt ex) 17 "_law_by_hand_right" 0 (pureG G__law_by_hand_right)) (c_box : ∀ ex p, DfL P w K mg base ⟨p, oc⟩ (Cb Pt ex) 1 "_law_box" 2 G__law_box)
    (c_cells : ∀ ex p live, Df P w K mg base ⟨p, oc⟩ (Cs (Cb Pt ex) K p live) 1 "_law_cells" 2 G__law_cells) (c_right : ∀ ex, DfA P w K mg base 17 "_law_right" (fun i : { p : Addr // ¬ (Cb Pt ex).mu p } => spD ⟨i.1, oc⟩ (Ct (Cb Pt ex) i.1) 1 G__law_right)) (i : LI Pt) :
    FnOk P w K mg base CX0 (17 + 1) f fd ["_law_script"] (spD ⟨i.a, oc⟩ (Cs (Cb Pt i.ex) K i.a i.live) 1 G_law) :=
  fn_ok (N := N_law) (lv := 17) (k := ⟨i.a, oc⟩) (C := Cs (Cb Pt i.ex) K i.a i.live) (F := F_law) Fd (C8.fnScope_by (by decide)) (by decide) fun cdv A outer s H E hr => have nd : (N_law).Nodup := by decide
    have hn := i.hn; have hand := c_hand i.ex i.a; have box := c_box i.ex i.a; have cells := c_cells i.ex i.a i.live; have right := c_right i.ex
    sb_cons (ss_if (et_not (et_val (ed_callP0 (cs_le hn) hand (hr.mono (by decide))))) (sb_one (ss_ret ed_bl)) sb_nil)
      (sb_cons (ss_set 1 nd (ed_call cells (hr.mono (by decide)) (ea_cons (ed_var 0) (ea_cons ed_int ea_nil))))
        (sb_one (ss_ret (ed_b1 (cr_all rfl) c_all B.all (by rfl) (eb_of (ed_ofL (el_lc [("_law_k", 2)] rfl nd (wi_range1 B.range (ed_b1 call_len c_len B.len (by rfl) (eb_var 1))) (blkOk_by (by rfl)) (fun _ _ _ _ _ => gt_name 2 nd) (fun _ _ _ _ _ => pts_t0)
          (fun _ _ _ _ _ => ed_rb hn right box (hr.mono (by decide)) (hr.mono (by decide)) (ea_cons (ed_var 1) (ea_cons (ed_var 2) ea_nil))))))))))
end
/-! ## its value -/
@[simp] theorem W_orL {T : Type} {f g : FL T} {ρ : Env} {t : T} {Q : List D → T → Prop} : W (orL f g ρ) t Q ↔ W (f ρ) t fun xs t' => match xs with
    | [] => W (g ρ) t' Q
    | x :: xs => Q (x :: xs) t' := by
  unfold orL
  rw [W_bnd]
  constructor <;> exact fun h => h.mono fun o t q => by cases o <;> simpa using q
@[simp] theorem W_scr {i : Nat} {fl fh : FO (List Int)} {ρ : Env} {t : List Int} {Q : List D → List Int → Prop} : W (scrF i fl fh ρ) t Q ↔ W (fl ρ) t fun l t1 => W (fh ρ) t1 fun h t2 => isTub i ρ = true ∧ Q (cutD (t2.map D.int) l h) t2 := by
  unfold scrF
  rw [W_bnd]
  constructor
  · refine fun h => h.mono fun l t1 h => ?_
    rw [W_bnd] at h
    refine h.mono fun hh t2 ⟨a, t', e, q⟩ => ?_
    split at e
    · next z => cases e; exact ⟨z, q⟩
    · cases e
  · refine fun h => h.mono fun l t1 h => ?_
    rw [W_bnd]
    refine h.mono fun hh t2 ⟨z, q⟩ => ⟨_, _, if_pos z, q⟩
theorem cut_ints (ns : List Int) (lo hi : Option Int) : ∃ ys : List Int, cutD (ns.map D.int) lo hi = ys.map D.int ∧ ys.length = (cutD (ns.map D.int) lo hi).length := by
  refine ⟨(ns.drop (HT.sIx (ns.map D.int).length 0 lo)).take (HT.sIx (ns.map D.int).length (ns.map D.int).length hi - HT.sIx (ns.map D.int).length 0 lo), ?_, ?_⟩
  · unfold cutD
    rw [List.map_take, List.map_drop]
  · unfold cutD
    simp
theorem cut1 (ns : List Int) : ∃ ys : List Int, cutD (ns.map D.int) none (some 2) = ys.map D.int ∧ ys.length = min 2 ns.length := by
  obtain ⟨ys, e, h⟩ := cut_ints ns none (some 2)
  refine ⟨ys, e, ?_⟩
  rw [h]
  unfold cutD
  rw [HT.sIx_none, show (2 : Int) = ((2 : Nat) : Int) from rfl, HT.sIx_nat]
  simp
theorem cut2 (ns : List Int) (hn : ns.length ≤ 63) : ∃ ys : List Int, cutD (ns.map D.int) (some 2) (some 63) = ys.map D.int ∧ (ys ≠ [] → 2 ≤ ns.length) ∧ ys.length ≤ 63 := by
  obtain ⟨ys, e, h⟩ := cut_ints ns (some 2) (some 63)
  have hl : ys.length = min 63 ns.length - min 2 ns.length := by
    rw [h]
    unfold cutD
    rw [show (2 : Int) = ((2 : Nat) : Int) from rfl, HT.sIx_nat, show (63 : Int) = ((63 : Nat) : Int) from rfl, HT.sIx_nat]
    simp
    omega
  refine ⟨ys, e, fun z => ?_, by omega⟩
  have := List.length_pos_iff.mpr z
  omega
theorem cells_ok {ns : List Int} (hn : ns.length ≤ 63) : W (G__law_cells [.tub, .int 2]) ns fun d t' => t' = ns ∧ ∃ cs : List Int, d = .lst (cs.map D.int) ∧ 1 ≤ cs.length ∧ cs.length ≤ 2 := by
  refine runD_W (n := 2) (m := 4) rfl ?_
  obtain ⟨y1, e1, l1⟩ := cut1 ns
  obtain ⟨y2, e2, l2, l3⟩ := cut2 ns hn
  have loop : ∀ (cs : List Int), 1 ≤ cs.length → cs.length ≤ 2 → (y2 ≠ [] → cs.length = 2) → W (forF (bd2 3 4) (seqS (sSet 5 (o2 (iI modI) (o1 intD (xB 3)) (xB 1))) (sIxS 2 (o2 (iI fun i j => some (i + j)) (o2 idxL (xB 2) (xB 5)) (o2 (iI mulI) (xB 4) (o2 (iI fun i j => some (i + j)) (xB 3) (cI 2)))) (xV 5)))
      (enumL 0 (y2.map D.int)) [some (.val .tub), some (.val (.int 2)), some (.ol (cs.map D.int)), none, none, none]) ns fun o t' => match o with
        | .nx ρ' => t' = ns ∧ ∃ (cs : List Int) (x3 x4 x5 : Option SV), ρ' = [some (.val .tub), some (.val (.int 2)), some (.ol (cs.map D.int)), x3, x4, x5] ∧ 1 ≤ cs.length ∧ cs.length ≤ 2
        | _ => False := fun cs h1 h2 h3 => by
    refine W_for (fun xs ρ t => t = ns ∧ ∃ (cs rest : List Int) (i : Nat) (x3 x4 x5 : Option SV), xs = enumL i (rest.map D.int) ∧ ρ = [some (.val .tub), some (.val (.int 2)), some (.ol (cs.map D.int)), x3, x4, x5] ∧ 1 ≤ cs.length ∧ cs.length ≤ 2 ∧ (rest ≠ [] → cs.length = 2) ∧ i + rest.length ≤ 63) (R := fun _ _ => False) ?_
      ⟨rfl, cs, y2, 0, none, none, none, rfl, rfl, h1, h2, h3, by omega⟩ ?_ ?_
    · rintro x xs ρ t ⟨rfl, cs, rest, i, x3, x4, x5, e, rfl, h1, h2, h3, h4⟩
      cases rest with
      | nil => cases e
      | cons r rest =>
        have e : x :: xs = .pr (.int (i : Nat)) (.int r) :: enumL (i + 1) (rest.map D.int) := e
        obtain ⟨rfl, rfl⟩ := List.cons.inj e
        obtain ⟨c0, c1, rfl⟩ : ∃ c0 c1, cs = [c0, c1] := by
          have := h3 (by simp)
          match cs, this with
          | [a, b], _ => exact ⟨a, b, rfl⟩
        have hr : i + 1 + rest.length ≤ 63 := by simp at h4; omega
        have m1 : modI (i : Int) 2 = some ((i : Int) % 2) := modI_ok (by decide)
        have m2 : mulI r ((i : Int) + 2) = some (r * ((i : Int) + 2)) := mulI_r ⟨by omega, by omega⟩
        refine ⟨_, rfl, ?_⟩
        have e0 : ∀ a b : D, idxL (.lst [a, b]) (.int 1) = some b := fun _ _ => rfl
        have s0 : ∀ (a b d : D) (x1 x3 x4 x5 : Option SV), setE 2 (.int 0) d [x1, x3, some (.ol [a, b]), x4, x5, some (.val (.int 0))] = some (.nx [x1, x3, some (.ol [d, b]), x4, x5, some (.val (.int 0))]) := fun _ _ _ _ _ _ _ => rfl
        have s1 : ∀ (a b d : D) (x1 x3 x4 x5 : Option SV), setE 2 (.int 1) d [x1, x3, some (.ol [a, b]), x4, x5, some (.val (.int 1))] = some (.nx [x1, x3, some (.ol [a, d]), x4, x5, some (.val (.int 1))]) := fun _ _ _ _ _ _ _ => rfl
        rcases (show (i : Int) % 2 = 0 ∨ (i : Int) % 2 = 1 by omega) with z | z
        · simp [intD, m1, m2, z, s0]
          exact ⟨[c0 + r * ((i : Int) + 2), c1], rest, ⟨i + 1, rfl, by rfl, by simp, by simp, by simp, hr⟩⟩
        · simp [intD, m1, m2, z, e0, s1]
          exact ⟨[c0, c1 + r * ((i : Int) + 2)], rest, ⟨i + 1, rfl, by rfl, by simp, by simp, by simp, hr⟩⟩
    · rintro ρ' t' ⟨rfl, cs, rest, i, x3, x4, x5, e, rfl, h1, h2, h3, h4⟩
      exact ⟨rfl, cs, x3, x4, x5, rfl, h1, h2⟩
    · exact fun _ _ z => False.elim z
  unfold F__law_cells
  simp [isTub, e1, e2]
  cases y1 with
  | nil =>
    simp
    refine (loop [0] (by decide) (by decide) fun z => ?_).mono fun o t' q => ?_
    · have := l2 z
      simp at l1
      omega
    · cases o with
      | nx ρ' =>
        obtain ⟨rfl, cs, x3, x4, x5, rfl, h1, h2⟩ := q
        simp
        exact ⟨cs, rfl, h1, h2⟩
      | _ => exact q.elim
  | cons a y1 =>
    simp
    refine (loop (a :: y1) (by simp) (by omega) fun z => ?_).mono fun o t' q => ?_
    · have := l2 z
      omega
    · cases o with
      | nx ρ' =>
        obtain ⟨rfl, cs, x3, x4, x5, rfl, h1, h2⟩ := q
        simp
        exact ⟨cs, rfl, h1, h2⟩
      | _ => exact q.elim
theorem box_ok {cs : List Int} {j : Nat} (hj : j < cs.length) (hl : cs.length ≤ 2) : boxD [.lst (cs.map D.int), .int j] = some (.bl true) := by
  have key : W (G__law_box [.lst (cs.map D.int), .int j]) () fun es _ => ∃ x y, es = [D.int x, D.int y, D.int 0] := by
    unfold G__law_box runL
    rw [if_pos (show ([D.lst (cs.map D.int), D.int j] : List D).length = 2 from rfl)]
    unfold F__law_box
    have hi : idxL (.lst (cs.map D.int)) (.int (j : Int)) = some (.int cs[j]) := by
      show L2.atI (cs.map D.int) (j : Int) = _
      refine L2.atI_nat ?_
      rw [List.getElem?_map, List.getElem?_eq_getElem hj]
      rfl
    generalize cs[j] = c at hi
    have hlt : decide ((j : Int) < ((cs.map D.int).length : Int)) = true := decide_eq_true (by rw [List.length_map]; omega)
    have mb : ∀ x : Int, mulI 39373 x = some (39373 * x) := fun x => mulI_l ⟨by decide, by decide⟩
    have mc : ∀ x : Int, modI x 2305843009213693951 = some (x % 2305843009213693951) := fun x => modI_ok (by decide)
    simp only [W_bnd]
    simp [hlt, hi, absD, intD]
    rw [if_pos hj]
    have ma : ∀ (x y : Int), mulI x (if 1000000000000000000 ≤ y then 1 else 0) = some (x * (if 1000000000000000000 ≤ y then 1 else 0)) := fun x y => mulI_r (by split <;> exact ⟨by decide, by decide⟩)
    simp [ma, mb, mc]
  obtain ⟨es, u, e, x, y, rfl⟩ := key
  unfold boxD
  rw [if_pos (show ([D.lst (cs.map D.int), D.int j] : List D).length = 2 from rfl), e]
  rfl
theorem law_ok {ns : List Int} (hn : ns.length ≤ 63) : ∃ t', G_law [.tub] ns = some (.bl true, t') := by
  have key : W (G_law [.tub]) ns fun d t' => d = .bl true := by
    refine runD_W (n := 1) (m := 2) rfl ?_
    unfold F_law
    simp [hand_ok]
    refine (cells_ok hn).mono fun d t' ⟨e, cs, hd, h1, h2⟩ => ?_
    subst e
    subst hd
    simp
    rw [if_pos (by omega), W_lft, sml_of (by unfold rangeL; simp; omega), W_lft]
    unfold rangeL
    refine W_comp (fun j : Nat => D.int (0 + (j : Int) * 1)) (fun _ => true) (fun _ => D.bl true) (List.range cs.length) (fun j hj => ⟨_, rfl, ?_, fun _ => ?_⟩) ?_
    · simp
    · have hj := List.mem_range.mp hj
      have := box_ok hj h2
      simp [this]
    · have ef : (List.filter (fun _ => true) (List.range cs.length)) = List.range cs.length := List.filter_eq_self.mpr fun _ _ => rfl
      rw [ef]
      have ea : allD (.lst ((List.range cs.length).map fun _ => D.bl true)) = some (.bl true) := by
        have := allD_bl ((List.range cs.length).map fun _ => true)
        rw [List.map_map] at this
        refine this.trans ?_
        simp
      exact W_lft' ea rfl
  obtain ⟨d, t', e, rfl⟩ := key
  exact ⟨t', e⟩
end MM
/-! E11 -/
section
set_option maxHeartbeats 0
namespace MM
open PySem PySem.Spec PyProof.Rows L2
/-! ## what the head tells, put together -/
section
variable {K : PySem.W.Frag} {h : Heap} {mg : Str → Option Value}
theorem ds_of (X : K.In h) (G : h.Ns mainGlobals mg) (c : He.SaysD fa fn K) {i : Nat} {x : Str} {ps : List Str} (j : Nat) (hd : fn[j]? = some (dfn i x)) (hg : fa[j]? = some (.glo x))
    (hb : ∀ (kV doc pm : Value) (an : Option Addr) (cdv ct : Value) (us : List Value), us.length = ps.length → bindArgs (PySem.W.fnOf x x (defArgs (top i)) (defBody (top i)) (defScope (top i)) .none kV doc pm an cdv ct) ⟨us, []⟩ = pure (ps.zip us)) : Ds K mg x (top i) ps := by
  obtain ⟨fd, F⟩ := c.def_ j hd
  exact ⟨He.ga K x, fd, F, He.glo_ok X G (c.fact j hg), FunD.bindsN F hb⟩
theorem bi_of (X : K.In h) (G : h.Ns mainGlobals mg) (c : He.SaysD fa fn K) : Bi mg where
  len := He.free_ok X G (c.fact 55 (f := .free "len") rfl)
  all := He.free_ok X G (c.fact 49 (f := .free "all") rfl)
  tuple := He.free_ok X G (c.fact 64 (f := .free "tuple") rfl)
  list := He.free_ok X G (c.fact 56 (f := .free "list") rfl)
  dict := He.free_ok X G (c.fact 51 (f := .free "dict") rfl)
  sorted := He.free_ok X G (c.fact 61 (f := .free "sorted") rfl)
  isinstance := He.free_ok X G (c.fact 54 (f := .free "isinstance") rfl)
  str := He.free_ok X G (c.fact 62 (f := .free "str") rfl)
  int := He.free_ok X G (c.fact 53 (f := .free "int") rfl)
  bool := He.free_ok X G (c.fact 50 (f := .free "bool") rfl)
  abs := He.free_ok X G (c.fact 48 (f := .free "abs") rfl)
  min := He.free_ok X G (c.fact 58 (f := .free "min") rfl)
  max := He.free_ok X G (c.fact 57 (f := .free "max") rfl)
  set := He.free_ok X G (c.fact 60 (f := .free "set") rfl)
  zip := He.free_ok X G (c.fact 65 (f := .free "zip") rfl)
  range := He.free_ok X G (c.fact 59 (f := .free "range") rfl)
  enumerate := He.free_ok X G (c.fact 52 (f := .free "enumerate") rfl)
  LONGEST := He.int_ok X G (c.fact 66 (f := .int "LONGEST" 8) rfl)
  LETTERS := He.str_ok X G (c.fact 67 (f := .str "LETTERS" "abcdefghijklmnopqrstuvwxyz") rfl)
theorem oq_of (e : oqB K = true) : OqC K (aNT K) := by
  obtain ⟨h1, e⟩ := He.ba e
  obtain ⟨h2, e⟩ := He.ba e
  obtain ⟨h3, e⟩ := He.ba e
  obtain ⟨h4, e⟩ := He.ba e
  obtain ⟨h5, e⟩ := He.ba e
  obtain ⟨h6, e⟩ := He.ba e
  obtain ⟨h7, e⟩ := He.ba e
  obtain ⟨h8, h9⟩ := He.ba e
  exact ⟨h1, He.eqO_ok h2, He.eqO_ok h3, of_decide_eq_true h4, He.eqO_ok h5, He.eqO_ok h6, of_decide_eq_true h7, of_decide_eq_true h8, of_decide_eq_true h9⟩
theorem cl_of : ∀ {l : List (Str × Addr)}, clB K l = true → ∃ cc cl cd csl, l = [(("__class__" : Str), cc)] ∧ K.lookup cc = some ⟨cl, cd, .cell (some (.ref (aNT K))), csl⟩
  | [], e => nomatch e
  | [(n, cc)], e => by
    obtain ⟨h1, h2⟩ := He.ba (show (decide (n = "__class__") && (match K.lookup cc with
      | some ⟨_, _, .cell (some v), _⟩ => decide (v = .ref (aNT K))
      | _ => false)) = true from e)
    have h1 := of_decide_eq_true h1
    subst h1
    split at h2
    · next a b v d lk =>
      have h2 := of_decide_eq_true h2
      subst h2
      exact ⟨cc, a, b, d, rfl, lk⟩
    · cases h2
  | _ :: _ :: _, e => nomatch e
theorem cd_of {v : Value} (e : cdB K v = true) : ∃ cda ccl cdd vs ccs file tf, v = .ref cda ∧ K.lookup cda = some ⟨ccl, cdd, .fields vs, ccs⟩ ∧ vs[2]? = some (.str file tf) ∧ ((pg.main.file : Str) == file) = true := by
  unfold cdB at e
  split at e
  · next cda =>
    split at e
    · next a b vs d lk =>
      split at e
      · next file tf hv => exact ⟨cda, a, b, vs, d, file, tf, rfl, lk, hv, e⟩
      · cases e
    · cases e
  · cases e
theorem nt_of (e : ntB K = true) (f : fnC K = vlC) : NtC pg K (aNT K) := by
  obtain ⟨e, e'⟩ := He.ba e
  obtain ⟨h1, e⟩ := He.ba e
  obtain ⟨h2, e⟩ := He.ba e
  obtain ⟨h3, e⟩ := He.ba e
  obtain ⟨h4, e⟩ := He.ba e
  obtain ⟨h5, e⟩ := He.ba e
  obtain ⟨h6, e⟩ := He.ba e
  obtain ⟨h7, e⟩ := He.ba e
  obtain ⟨h8, e⟩ := He.ba e
  obtain ⟨h9, h10⟩ := He.ba e
  obtain ⟨k1, e'⟩ := He.ba e'
  obtain ⟨k2, k3⟩ := He.ba e'
  refine ⟨h1, h2, h3, He.eqO_ok h4, He.eqO_ok h5, h6, He.eqO_ok h7, He.eqO_ok h8, of_decide_eq_true h9, of_decide_eq_true h10, ?_⟩
  unfold fnB at k3
  unfold fnC at f
  cases lk : K.lookup (fNT K) with
  | none => rw [lk] at k3; cases k3
  | some o =>
    obtain ⟨oc, od, dt, osl⟩ := o
    rw [lk] at k3 f
    cases dt with
    | func fd =>
      obtain ⟨n1, n2, n3, n4, n5, n6, n7, n8, n9, n10, n11, n12, n13, n14, n15⟩ := fd
      have f : (some (n3, n4, n5) : FnC) = some (defArgs ntSt, .stmts (defBody ntSt), defScope ntSt) := f
      simp only [Option.some.injEq, Prod.mk.injEq] at f
      obtain ⟨q1, q2, q3⟩ := f
      have k3 : ((decide (n1 = "__init__") && (decide (n2 = "NoTask.__init__") && (decide (n6 = mainGlobals) && (decide (n15 = builtinsNs) && (decide (n8 = .none) && decide (n9 = .none)))))) && (PySem.W.codeIn K n13 "NoTask.__init__" && (clB K n7 && cdB K n13))) = true := k3
      obtain ⟨a, b⟩ := He.ba k3
      obtain ⟨a1, a⟩ := He.ba a
      obtain ⟨a2, a⟩ := He.ba a
      obtain ⟨a3, a⟩ := He.ba a
      obtain ⟨a4, a⟩ := He.ba a
      obtain ⟨a5, a6⟩ := He.ba a
      obtain ⟨b1, b⟩ := He.ba b
      obtain ⟨b2, b3⟩ := He.ba b
      have a1 := of_decide_eq_true a1
      have a2 := of_decide_eq_true a2
      have a3 := of_decide_eq_true a3
      have a4 := of_decide_eq_true a4
      have a5 := of_decide_eq_true a5
      have a6 := of_decide_eq_true a6
      obtain ⟨cc, cl, cd, csl, r1, lc⟩ := cl_of b2
      obtain ⟨cda, ccl, cdd, vs, ccs, file, tf, r2, lcd, hv, hf⟩ := cd_of b3
      subst a1 a2 a3 a4 a5 a6 q1 q2 q3 r1 r2
      exact ⟨fNT K, cc, cda, oc, od, n10, n11, n14, n12, osl, He.eqO_ok k1, k2, lk, b1, ⟨cl, cd, csl, lc⟩, ccl, cdd, vs, ccs, file, tf, lcd, hv, hf⟩
    | _ => cases k3
end

theorem law_fn {w : World} {K : PySem.W.Frag} {h base : Heap} {mg : Str → Option Value} {fd : FuncData} (X : K.In h) (G : h.Ns mainGlobals mg) (S : SaysN w h K) (Fd : FunD K "law" "law" (defArgs (top 56)) (defBody (top 56)) (defScope (top 56)) [] [] (He.ga K "law") fd)
    {Pt oc : Addr} (hPt : Pt = (He.cT K ("right_ends_of", none)).2) (hoc : oc = aNT K) (TB : LamX.TabB base mg (He.cT K ("right_ends_of", none)).1 Pt) (i : LI Pt) :
    FnOk pg w K mg base CX0 18 (He.ga K "law") fd ["_law_script"] (spD ⟨i.a, oc⟩ (Cs (Cb Pt i.ex) K i.a i.live) 1 G_law) := by
  have c := S.x.t.d
  obtain ⟨x1, x2⟩ := He.ba S.x.more
  have B := bi_of X G c
  have O := oq_of x2
  have Nt := nt_of x1 S.c
  have hmN : mg "NoTask" = some (.ref (aNT K)) := He.glo_ok X G (c.fact 68 (f := .glo "NoTask") rfl)
  have hmS : mg "super" = none := He.free_ok X G (c.fact 63 (f := .free "super") rfl)
  have htop : (pg.main.scope.names.lookup ("super" : Str)).isSome = false := by decide +kernel
  have hcode : ∀ (f : Addr) (fd : FuncData) (o1 : Value) (o2 : Option Addr) (o3 : Array (Option Value)) (c' : Addr), mg "right_ends_of" = some (.ref f) → K.lookup f = some ⟨o1, o2, .func fd, o3⟩ → fd.code = .ref c' → c' = (He.cT K ("right_ends_of", none)).1 := fun f fd o1 o2 o3 c' e lk ec => by
    have e2 := e.symm.trans (He.glo_ok X G (c.fact 18 (f := .glo "right_ends_of") rfl))
    cases e2
    exact (He.codeOf_eq (p := ("right_ends_of", none)) lk ec).symm
  rw [← hoc] at O Nt hmN
  have D_is_name : Ds K mg "is_name" (top 5) ["value"] := ds_of X G c 0 rfl rfl (fun _ _ _ _ _ _ us hl => match us, hl with | [_], _ => rfl)
  have D_tupled : Ds K mg "tupled" (top 6) ["value"] := ds_of X G c 1 rfl rfl (fun _ _ _ _ _ _ us hl => match us, hl with | [_], _ => rfl)
  have D_masks_table : Ds K mg "masks_table" (top 8) ["book"] := ds_of X G c 2 rfl rfl (fun _ _ _ _ _ _ us hl => match us, hl with | [_], _ => rfl)
  have D_may_table : Ds K mg "may_table" (top 10) ["book", "ready"] := ds_of X G c 3 rfl rfl (fun _ _ _ _ _ _ us hl => match us, hl with | [_, _], _ => rfl)
  have D_tasks_of : Ds K mg "tasks_of" (top 12) ["ready"] := ds_of X G c 4 rfl rfl (fun _ _ _ _ _ _ us hl => match us, hl with | [_], _ => rfl)
  have D_check_task : Ds K mg "check_task" (top 13) ["ready", "task"] := ds_of X G c 5 rfl rfl (fun _ _ _ _ _ _ us hl => match us, hl with | [_, _], _ => rfl)
  have D_seat_more : Ds K mg "seat_more" (top 14) ["table", "seats", "task"] := ds_of X G c 6 rfl rfl (fun _ _ _ _ _ _ us hl => match us, hl with | [_, _, _], _ => rfl)
  have D_seat_all : Ds K mg "seat_all" (top 15) ["book", "ready"] := ds_of X G c 7 rfl rfl (fun _ _ _ _ _ _ us hl => match us, hl with | [_, _], _ => rfl)
  have D_ideal : Ds K mg "ideal" (top 16) ["book", "ready"] := ds_of X G c 8 rfl rfl (fun _ _ _ _ _ _ us hl => match us, hl with | [_, _], _ => rfl)
  have D_seats_of : Ds K mg "seats_of" (top 18) ["seating"] := ds_of X G c 9 rfl rfl (fun _ _ _ _ _ _ us hl => match us, hl with | [_], _ => rfl)
  have D_does_wait : Ds K mg "does_wait" (top 19) ["seats", "task"] := ds_of X G c 10 rfl rfl (fun _ _ _ _ _ _ us hl => match us, hl with | [_, _], _ => rfl)
  have D_reach : Ds K mg "reach" (top 20) ["table", "seats", "task"] := ds_of X G c 11 rfl rfl (fun _ _ _ _ _ _ us hl => match us, hl with | [_, _, _], _ => rfl)
  have D_is_end : Ds K mg "is_end" (top 21) ["names", "seats", "task", "cpu"] := ds_of X G c 12 rfl rfl (fun _ _ _ _ _ _ us hl => match us, hl with | [_, _, _, _], _ => rfl)
  have D_is_row_of : Ds K mg "is_row_of" (top 22) ["table", "seats", "row"] := ds_of X G c 13 rfl rfl (fun _ _ _ _ _ _ us hl => match us, hl with | [_, _, _], _ => rfl)
  have D_is_shift : Ds K mg "is_shift" (top 23) ["book", "ready", "seating", "thing"] := ds_of X G c 14 rfl rfl (fun _ _ _ _ _ _ us hl => match us, hl with | [_, _, _, _], _ => rfl)
  have D_ways_on : Ds K mg "ways_on" (top 24) ["table", "seats", "way"] := ds_of X G c 15 rfl rfl (fun _ _ _ _ _ _ us hl => match us, hl with | [_, _, _], _ => rfl)
  have D_shortest : Ds K mg "shortest" (top 25) ["table", "seats", "task", "goals"] := ds_of X G c 16 rfl rfl (fun _ _ _ _ _ _ us hl => match us, hl with | [_, _, _, _], _ => rfl)
  have D_right_ends_of : Ds K mg "right_ends_of" (top 27) ["table", "seats", "names", "task"] := ds_of X G c 18 rfl rfl (fun _ _ _ _ _ _ us hl => match us, hl with | [_, _, _, _], _ => rfl)
  have D_best_way : Ds K mg "best_way" (top 28) ["book", "ready", "seating", "task", "right"] := ds_of X G c 19 rfl rfl (fun _ _ _ _ _ _ us hl => match us, hl with | [_, _, _, _, _], _ => rfl)
  have D_a_right_shift : Ds K mg "a_right_shift" (top 29) ["book", "ready", "seating", "task"] := ds_of X G c 20 rfl rfl (fun _ _ _ _ _ _ us hl => match us, hl with | [_, _, _, _], _ => rfl)
  have D_shifted : Ds K mg "shifted" (top 30) ["seating", "shift"] := ds_of X G c 21 rfl rfl (fun _ _ _ _ _ _ us hl => match us, hl with | [_, _], _ => rfl)
  have D_next_shift : Ds K mg "next_shift" (top 31) ["book", "ready", "seating"] := ds_of X G c 22 rfl rfl (fun _ _ _ _ _ _ us hl => match us, hl with | [_, _, _], _ => rfl)
  have D_is_settled : Ds K mg "is_settled" (top 32) ["book", "ready", "seating"] := ds_of X G c 23 rfl rfl (fun _ _ _ _ _ _ us hl => match us, hl with | [_, _, _], _ => rfl)
  have D_settling : Ds K mg "settling" (top 33) ["book", "ready", "seating"] := ds_of X G c 24 rfl rfl (fun _ _ _ _ _ _ us hl => match us, hl with | [_, _, _], _ => rfl)
  have D_is_settling : Ds K mg "is_settling" (top 34) ["book", "ready", "seating", "thing"] := ds_of X G c 25 rfl rfl (fun _ _ _ _ _ _ us hl => match us, hl with | [_, _, _, _], _ => rfl)
  have D__law_same : Ds K mg "_law_same" (top 41) ["_law_got", "_law_due"] := ds_of X G c 31 rfl rfl (fun _ _ _ _ _ _ us hl => match us, hl with | [_, _], _ => rfl)
  have D__law_lists : Ds K mg "_law_lists" (top 42) ["_law_matter"] := ds_of X G c 32 rfl rfl (fun _ _ _ _ _ _ us hl => match us, hl with | [_], _ => rfl)
  have D__law_half : Ds K mg "_law_half" (top 43) ["_law_matter"] := ds_of X G c 33 rfl rfl (fun _ _ _ _ _ _ us hl => match us, hl with | [_], _ => rfl)
  have D__law_may : Ds K mg "_law_may" (top 46) ["_law_web_here", "_law_row_so"] := ds_of X G c 36 rfl rfl (fun _ _ _ _ _ _ us hl => match us, hl with | [_, _], _ => rfl)
  have D__law_shifts : Ds K mg "_law_shifts" (top 48) ["_law_row_so", "_law_may_so", "_law_seats_so", "_law_tag"] := ds_of X G c 38 rfl rfl (fun _ _ _ _ _ _ us hl => match us, hl with | [_, _, _, _], _ => rfl)
  have D__law_kit : Ds K mg "_law_kit" (top 49) [] := ds_of X G c 39 rfl rfl (fun _ _ _ _ _ _ us hl => match us, hl with | [], _ => rfl)
  have D__law_is : Ds K mg "_law_is" (top 50) ["_law_row_so", "_law_may_so", "_law_seats_so", "_law_way_so"] := ds_of X G c 40 rfl rfl (fun _ _ _ _ _ _ us hl => match us, hl with | [_, _, _, _], _ => rfl)
  have D__law_moved : Ds K mg "_law_moved" (top 51) ["_law_seats_so", "_law_way_so"] := ds_of X G c 41 rfl rfl (fun _ _ _ _ _ _ us hl => match us, hl with | [_, _], _ => rfl)
  have D__law_shows : Ds K mg "_law_shows" (top 52) ["_law_web_here", "_law_row_so", "_law_seats_so", "_law_rows_so"] := ds_of X G c 42 rfl rfl (fun _ _ _ _ _ _ us hl => match us, hl with | [_, _, _, _], _ => rfl)
  have D__law_take : Ds K mg "_law_take" (top 37) ["_law_tub", "_law_top_to"] := ds_of X G c 27 rfl rfl (fun _ _ _ _ _ _ us hl => match us, hl with | [_, _], _ => rfl)
  have D__law_of : Ds K mg "_law_of" (top 39) ["_law_tub", "_law_few_so"] := ds_of X G c 29 rfl rfl (fun _ _ _ _ _ _ us hl => match us, hl with | [_, _], _ => rfl)
  have D__law_pick : Ds K mg "_law_pick" (top 40) ["_law_tub", "_law_few_so", "_law_much_so"] := ds_of X G c 30 rfl rfl (fun _ _ _ _ _ _ us hl => match us, hl with | [_, _, _], _ => rfl)
  have D__law_web : Ds K mg "_law_web" (top 44) ["_law_tub", "_law_wide_so", "_law_many_so"] := ds_of X G c 34 rfl rfl (fun _ _ _ _ _ _ us hl => match us, hl with | [_, _, _], _ => rfl)
  have D__law_row : Ds K mg "_law_row" (top 45) ["_law_tub", "_law_web_here", "_law_most_so"] := ds_of X G c 35 rfl rfl (fun _ _ _ _ _ _ us hl => match us, hl with | [_, _, _], _ => rfl)
  have D__law_seats : Ds K mg "_law_seats" (top 47) ["_law_tub", "_law_web_here", "_law_row_so"] := ds_of X G c 37 rfl rfl (fun _ _ _ _ _ _ us hl => match us, hl with | [_, _, _], _ => rfl)
  have D__law_drawn : Ds K mg "_law_drawn" (top 54) ["_law_tub", "_law_web_here", "_law_row_so", "_law_seats_so"] := ds_of X G c 44 rfl rfl (fun _ _ _ _ _ _ us hl => match us, hl with | [_, _, _, _], _ => rfl)
  have D__law_right : Ds K mg "_law_right" (top 55) ["_law_tub"] := ds_of X G c 45 rfl rfl (fun _ _ _ _ _ _ us hl => match us, hl with | [_], _ => rfl)
  have D__law_by_hand_right : Ds K mg "_law_by_hand_right" (top 53) [] := ds_of X G c 43 rfl rfl (fun _ _ _ _ _ _ us hl => match us, hl with | [], _ => rfl)
  have D__law_box : Ds K mg "_law_box" (top 36) ["_law_script", "_law_k"] := ds_of X G c 26 rfl rfl (fun _ _ _ _ _ _ us hl => match us, hl with | [_, _], _ => rfl)
  have D__law_cells : Ds K mg "_law_cells" (top 38) ["_law_script", "_law_most_so"] := ds_of X G c 28 rfl rfl (fun _ _ _ _ _ _ us hl => match us, hl with | [_, _], _ => rfl)
  have c_is_name : ∀ ex p, Df pg w K mg base ⟨p, oc⟩ (Cb Pt ex) 1 "is_name" 1 (pureG G_is_name) := fun ex p => d_is_name B D_is_name O 
  have c_tupled : ∀ ex p, Df pg w K mg base ⟨p, oc⟩ (Cb Pt ex) 9 "tupled" 1 (pureG (G_tupled 8)) := fun ex p => c_tupled_at B D_tupled 8
  have c_masks_table : ∀ ex p, Df pg w K mg base ⟨p, oc⟩ (Cb Pt ex) 10 "masks_table" 1 (pureG G_masks_table) := fun ex p => d_masks_table B D_masks_table (c_tupled ex p)
  have c_may_table : ∀ ex p, Df pg w K mg base ⟨p, oc⟩ (Cb Pt ex) 11 "may_table" 2 (pureG G_may_table) := fun ex p => d_may_table B D_may_table (c_masks_table ex p)
  have c_tasks_of : ∀ ex p, Df pg w K mg base ⟨p, oc⟩ (Cb Pt ex) 1 "tasks_of" 1 (pureG G_tasks_of) := fun ex p => d_tasks_of B D_tasks_of 
  have c_check_task : ∀ ex p, Df pg w K mg base ⟨p, oc⟩ (Cb Pt ex) 2 "check_task" 2 (pureG G_check_task) := fun ex p => d_check_task B D_check_task (c_tasks_of ex p)
  have c_seat_more : ∀ ex p, Df pg w K mg base ⟨p, oc⟩ (Cb Pt ex) 1 "seat_more" 3 (pureG G_seat_more) := fun ex p => d_seat_more B D_seat_more 
  have c_seat_all : ∀ ex p, Df pg w K mg base ⟨p, oc⟩ (Cb Pt ex) 12 "seat_all" 2 (pureG G_seat_all) := fun ex p => d_seat_all B D_seat_all (c_may_table ex p) (c_tasks_of ex p) (c_seat_more ex p)
  have c_ideal : ∀ ex p, Df pg w K mg base ⟨p, oc⟩ (Cb Pt ex) 13 "ideal" 2 (pureG G_ideal) := fun ex p => d_ideal B D_ideal (c_seat_all ex p)
  have c_seats_of : ∀ ex p, DfK pg w K mg base ⟨p, oc⟩ (Cb Pt ex) 10 "seats_of" 1 GK_seats_of := fun ex p => d_seats_of B D_seats_of (c_tupled ex p)
  have c_does_wait : ∀ ex p, Df pg w K mg base ⟨p, oc⟩ (Cb Pt ex) 1 "does_wait" 2 (pureG G_does_wait) := fun ex p => d_does_wait B D_does_wait 
  have c_reach : ∀ ex p, Df pg w K mg base ⟨p, oc⟩ (Cb Pt ex) 1 "reach" 3 (pureG G_reach) := fun ex p => d_reach B D_reach 
  have c_is_end : ∀ ex p, Df pg w K mg base ⟨p, oc⟩ (Cb Pt ex) 1 "is_end" 4 (pureG G_is_end) := fun ex p => d_is_end B D_is_end 
  have c_is_row_of : ∀ ex p, Df pg w K mg base ⟨p, oc⟩ (Cb Pt ex) 2 "is_row_of" 3 (pureG G_is_row_of) := fun ex p => d_is_row_of B D_is_row_of (c_does_wait ex p)
  have c_is_shift : ∀ ex p, Df pg w K mg base ⟨p, oc⟩ (Cb Pt ex) 12 "is_shift" 4 (pureG G_is_shift) := fun ex p => d_is_shift B D_is_shift O (c_is_name ex p) (c_tasks_of ex p) (c_seats_of ex p) (c_may_table ex p) (c_is_row_of ex p) (c_is_end ex p)
  have c_ways_on : ∀ ex p, Df pg w K mg base ⟨p, oc⟩ (Cb Pt ex) 1 "ways_on" 3 (pureG G_ways_on) := fun ex p => d_ways_on B D_ways_on 
  have c_shortest : ∀ ex p, Df pg w K mg base ⟨p, oc⟩ (Cb Pt ex) 2 "shortest" 4 (pureG G_shortest) := fun ex p => d_shortest B D_shortest (c_ways_on ex p)
  have c_right_ends_of : ∀ ex p, Df pg w K mg base ⟨p, oc⟩ (Cb Pt ex) 3 "right_ends_of" 4 (pureG G_right_ends_of) := fun ex p => d_right_ends_of B B.max TB hcode D_right_ends_of (c_reach ex p) (c_is_end ex p)
  have c_best_way : ∀ ex p, Df pg w K mg base ⟨p, oc⟩ (Cb Pt ex) 12 "best_way" 5 (pureG G_best_way) := fun ex p => d_best_way B D_best_way (c_check_task ex p) (c_may_table ex p) (c_seats_of ex p) (c_tasks_of ex p) (c_does_wait ex p) (c_right_ends_of ex p) (c_shortest ex p)
  have c_a_right_shift : ∀ ex p, Df pg w K mg base ⟨p, oc⟩ (Cb Pt ex) 13 "a_right_shift" 4 (pureG G_a_right_shift) := fun ex p => d_a_right_shift B D_a_right_shift (c_best_way ex p)
  have c_shifted : ∀ ex p, Df pg w K mg base ⟨p, oc⟩ (Cb Pt ex) 11 "shifted" 2 (pureG G_shifted) := fun ex p => d_shifted B D_shifted (c_seats_of ex p)
  have c_next_shift : ∀ ex p, Df pg w K mg base ⟨p, oc⟩ (Cb Pt ex) 14 "next_shift" 3 (pureG G_next_shift) := fun ex p => d_next_shift B D_next_shift (c_tasks_of ex p) (c_a_right_shift ex p)
  have c_is_settled : ∀ ex p, Df pg w K mg base ⟨p, oc⟩ (Cb Pt ex) 15 "is_settled" 3 (pureG G_is_settled) := fun ex p => d_is_settled B D_is_settled (c_next_shift ex p)
  have c_settling : ∀ ex p, Df pg w K mg base ⟨p, oc⟩ (Cb Pt ex) 15 "settling" 3 (pureG G_settling) := fun ex p => d_settling B D_settling (c_tupled ex p) (c_next_shift ex p) (c_shifted ex p)
  have c_is_settling : ∀ ex p, Df pg w K mg base ⟨p, oc⟩ (Cb Pt ex) 16 "is_settling" 4 (pureG G_is_settling) := fun ex p => d_is_settling B D_is_settling O (c_tupled ex p) (c_is_shift ex p) (c_shifted ex p) (c_is_settled ex p)
  have c__law_same : ∀ ex p, Df pg w K mg base ⟨p, oc⟩ (Cb Pt ex) 9 "_law_same" 2 (pureG (G__law_same 8)) := fun ex p => c__law_same_at O B D__law_same 8
  have c__law_lists : ∀ ex p, Df pg w K mg base ⟨p, oc⟩ (Cb Pt ex) 9 "_law_lists" 1 (pureG (G__law_lists 8)) := fun ex p => c__law_lists_at B D__law_lists 8
  have c__law_half : ∀ ex p, Df pg w K mg base ⟨p, oc⟩ (Cb Pt ex) 10 "_law_half" 1 (pureG G__law_half) := fun ex p => d__law_half B D__law_half (c__law_lists ex p)
  have c__law_may : ∀ ex p, Df pg w K mg base ⟨p, oc⟩ (Cb Pt ex) 1 "_law_may" 2 (pureG G__law_may) := fun ex p => d__law_may B D__law_may 
  have c__law_shifts : ∀ ex p, Df pg w K mg base ⟨p, oc⟩ (Cb Pt ex) 1 "_law_shifts" 4 (pureG G__law_shifts) := fun ex p => d__law_shifts B D__law_shifts 
  have c__law_kit : ∀ ex p, Df pg w K mg base ⟨p, oc⟩ (Cb Pt ex) 1 "_law_kit" 0 (pureG G__law_kit) := fun ex p => d__law_kit B D__law_kit 
  have c__law_is : ∀ ex p, Df pg w K mg base ⟨p, oc⟩ (Cb Pt ex) 1 "_law_is" 4 (pureG G__law_is) := fun ex p => d__law_is B D__law_is 
  have c__law_moved : ∀ ex p, Df pg w K mg base ⟨p, oc⟩ (Cb Pt ex) 1 "_law_moved" 2 (pureG G__law_moved) := fun ex p => d__law_moved B D__law_moved 
  have c__law_shows : ∀ ex p, Df pg w K mg base ⟨p, oc⟩ (Cb Pt ex) 2 "_law_shows" 4 (pureG G__law_shows) := fun ex p => d__law_shows B D__law_shows O (c__law_may ex p) (c__law_is ex p) (c__law_moved ex p) (c__law_shifts ex p)
  have c__law_take : ∀ ex p, ¬ (Cb Pt ex).mu p → Df pg w K mg base ⟨p, oc⟩ (Ct (Cb Pt ex) p) 1 "_law_take" 2 G__law_take := fun ex p hn => d__law_take B D__law_take  hn
  have c__law_of : ∀ ex p, ¬ (Cb Pt ex).mu p → Df pg w K mg base ⟨p, oc⟩ (Ct (Cb Pt ex) p) 2 "_law_of" 2 G__law_of := fun ex p hn => d__law_of B D__law_of (c__law_take ex p hn) hn
  have c__law_pick : ∀ ex p, ¬ (Cb Pt ex).mu p → Df pg w K mg base ⟨p, oc⟩ (Ct (Cb Pt ex) p) 2 "_law_pick" 3 G__law_pick := fun ex p hn => d__law_pick B D__law_pick (c__law_take ex p hn) hn
  have c__law_web : ∀ ex p, ¬ (Cb Pt ex).mu p → Df pg w K mg base ⟨p, oc⟩ (Ct (Cb Pt ex) p) 3 "_law_web" 3 G__law_web := fun ex p hn => d__law_web B D__law_web (c__law_take ex p hn) (c__law_pick ex p hn) hn
  have c__law_row : ∀ ex p, ¬ (Cb Pt ex).mu p → Df pg w K mg base ⟨p, oc⟩ (Ct (Cb Pt ex) p) 3 "_law_row" 3 G__law_row := fun ex p hn => d__law_row B D__law_row (c__law_pick ex p hn) (c__law_take ex p hn) (c__law_of ex p hn) hn
  have c__law_seats : ∀ ex p, ¬ (Cb Pt ex).mu p → Df pg w K mg base ⟨p, oc⟩ (Ct (Cb Pt ex) p) 3 "_law_seats" 3 G__law_seats := fun ex p hn => d__law_seats B D__law_seats (c__law_may ex p) (c__law_pick ex p hn) (c__law_take ex p hn) (c__law_of ex p hn) hn
  have c__law_drawn : ∀ ex p, ¬ (Cb Pt ex).mu p → Df pg w K mg base ⟨p, oc⟩ (Ct (Cb Pt ex) p) 3 "_law_drawn" 4 G__law_drawn := fun ex p hn => d__law_drawn B D__law_drawn (c__law_may ex p) (c__law_shifts ex p) (c__law_of ex p hn) (c__law_moved ex p) hn
  have c__law_right : ∀ ex, DfA pg w K mg base 17 "_law_right" (fun i : { p : Addr // ¬ (Cb Pt ex).mu p } => spD ⟨i.1, oc⟩ (Ct (Cb Pt ex) i.1) 1 G__law_right) := fun ex => d__law_right B D__law_right (c__law_web ex) (c__law_row ex) (c__law_seats ex) (c__law_drawn ex) (c_settling ex) (c__law_shows ex) (c_is_settling ex) (c_ideal ex) (c__law_lists ex) (c__law_same ex)
  have k_settling : ∀ ex p, Df2 pg w K mg base ⟨p, oc⟩ (Cb Pt ex) 15 "settling" 3 ["seating", "ready", "book"] (pureG G_settling) := fun ex p => d2_settling B D_settling (c_tupled ex p) (c_next_shift ex p) (c_shifted ex p)
  have k_is_settling : ∀ ex p, Df2 pg w K mg base ⟨p, oc⟩ (Cb Pt ex) 16 "is_settling" 4 ["thing", "seating", "ready", "book"] (pureG G_is_settling) := fun ex p => d2_is_settling B D_is_settling O (c_tupled ex p) (c_is_shift ex p) (c_shifted ex p) (c_is_settled ex p)
  have c_hand : ∀ ex p, Df pg w K mg base ⟨p, oc⟩ (Cb Pt ex) 17 "_law_by_hand_right" 0 (pureG G__law_by_hand_right) := fun ex p => d__law_by_hand_right B D__law_by_hand_right Nt hmN hmS htop (c__law_kit ex p) (k_is_settling ex p) (k_settling ex p) (c__law_shows ex p) (c__law_lists ex p) (c__law_half ex p) (c__law_same ex p)
  have c__law_box : ∀ ex p, DfL pg w K mg base ⟨p, oc⟩ (Cb Pt ex) 1 "_law_box" 2 G__law_box := fun ex p => d__law_box B D__law_box
  have c__law_cells : ∀ ex p live, Df pg w K mg base ⟨p, oc⟩ (Cs (Cb Pt ex) K p live) 1 "_law_cells" 2 G__law_cells := fun ex p live => d__law_cells B D__law_cells
  exact d_law B Fd c_hand c__law_box c__law_cells c__law_right i
end MM
end
/-! E12 -/
section
set_option maxHeartbeats 0
namespace MM
open PySem PySem.Spec PyProof.Rows L2
theorem law_at {w : World} {K : PySem.W.Frag} {h : Heap} {mg : Str → Option Value} (X : K.In h) (G : h.Ns mainGlobals mg) (S : SaysN w h K) : LamX.LawAtS PySem.Challenge.rw_masksmoved_k29_whole_shifts_until_settle w K CX0 18 63 "_law_script" mg (He.ga K "law") h := by
  have c := S.x.t.d
  obtain ⟨fd, Fd⟩ := c.def_ 46 (d := dfn 56 "law") rfl
  obtain ⟨Pt, hPt⟩ : ∃ Pt, Pt = (He.cT K ("right_ends_of", none)).2 := ⟨_, rfl⟩
  have mem : (("right_ends_of", none) : He.Defn) ∈ tf := List.mem_singleton.mpr rfl
  refine ⟨fd, [He.cT K ("right_ends_of", none)], fun vs H Q E => ∃ i : LI Pt, spD ⟨i.a, aNT K⟩ (Cs (Cb Pt i.ex) K i.a i.live) 1 G_law vs H Q E, fun p hp => ?_, fun p hp => ?_, fun p hp => ?_, fun s u => ?_, fun H a ns hl _ hT hS => ?_, fun base _ _ hTB => ?_⟩
  · rw [List.mem_singleton.mp hp]; exact S.x.empty _ mem
  · rw [List.mem_singleton.mp hp]; exact S.x.out _ mem
  · rw [List.mem_singleton.mp hp]; exact PySem.W.codeHd_of_K X (S.x.hd _ mem)
  · exact FunD.bindsA (ps := ["_law_script"]) Fd (fun _ _ _ _ _ _ us hl => match us, hl with | [_], _ => rfl) s [u] rfl
  · obtain ⟨live, hsc⟩ := scr_of hS
    have hP : H Pt = some (.tbl #[]) := by rw [hPt]; exact hT _ (List.mem_singleton.mpr rfl)
    obtain ⟨t', e⟩ := law_ok hl
    have hn : live ≠ none → ¬ (Cb Pt fun b => b ≠ Pt ∧ ∃ ps, H b = some (.tbl ps)).mu a := fun l m => by
      have key : ∀ ps, H a ≠ some (.tbl ps) := fun ps z => by
        match live, hsc, l with
        | some true, hsc, _ =>
          have hsc : H a = some (.lst (ns.map V.int)) := hsc
          rw [hsc] at z; cases z
        | some false, ⟨o, hsc⟩, _ => rw [hsc] at z; cases z
        | none, _, l => exact l rfl
      rcases m with rfl | ⟨_, ps, m⟩
      · exact key _ hP
      · exact key ps m
    refine ⟨⟨fun b => b ≠ Pt ∧ ∃ ps, H b = some (.tbl ps), a, live, hn⟩, fun _ => none, [.tub], ns, .bl true, t', (fun _ _ e => nomatch e), ⟨fun b m => ⟨?_, rfl⟩, fun b ps z => ?_⟩, ⟨?_, hsc⟩, .cons .tub .nil, rfl, e, fun H0' H' v g s r rv => ?_⟩
    · rcases m with (rfl | ⟨_, ps, m⟩) | ⟨l, eb⟩
      · rw [hP]; exact fun z => nomatch z
      · rw [m]; exact fun z => nomatch z
      · have l : live = some true := l
        subst l
        have hsc : H a = some (.lst (ns.map V.int)) := hsc
        have eb : b = a := eb
        rw [eb, hsc]; exact fun z => nomatch z
    · by_cases hb : b = Pt
      · exact .inl (.inl hb)
      · exact .inl (.inr ⟨hb, ps, z⟩)
    · intro p hp
      rw [List.mem_singleton.mp hp]
      exact ⟨#[], hP, trivial, fun pos cv hc => by cases hc⟩
    · cases rv
      rfl
  · have TB := hTB _ (List.mem_singleton.mpr rfl)
    rw [← hPt] at TB
    exact DfA.one (x := "law") fun i => law_fn X G S Fd hPt rfl TB i
end MM
end
open PySem PySem.W PySem.Calls PyProof.Rows
set_option maxHeartbeats 0 in
theorem PySem.Challenge.cw_masksmoved_k29_whole_shifts_until_settle_holds : PySem.Challenge.rw_masksmoved_k29_whole_shifts_until_settle.Holds := by
  w_on; o_law
  refine HandSHeadRun.head_any (r := OpenLaw.row PySem.Challenge.rw_masksmoved_k29_whole_shifts_until_settle) (q := view (OpenLaw.row PySem.Challenge.rw_masksmoved_k29_whole_shifts_until_settle).prog [56]) (H := MM.hk) (ob := MM.ob) (M := 4000) (loose := MM.loose) (d := HandSHeadRun.topDef (OpenLaw.row PySem.Challenge.rw_masksmoved_k29_whole_shifts_until_settle).prog 56) (kwd := []) MM.ob_eq
    (by kernel_rfl) (fun s => by kernel_rfl) MM.run (by kernel_rfl) (by kernel_rfl) (by kernel_rfl) (by rfl) (by first | assumption | decide +kernel) (by decide +kernel) ⟨rfl, rfl, rfl, rfl, rfl, by decide +kernel⟩ ?hw ?hc
  case hw => w_witness2
  case hc =>
    refine LamX.walk_ofTsE (l := PySem.Challenge.rw_masksmoved_k29_whole_shifts_until_settle) (n := 63) (k := 18) (x := "_law_script") (CX := fun _ => L2.CX0) rfl (by decide) (by kernel_rfl) ⟨rfl, by decide, by decide⟩ ?F (fun _ _ _ _ _ z => z)
    intro w mg fa h Y G hmg0
    obtain ⟨K, KX, S⟩ := Y
    have e : (HandSHeadRun.topDef (OpenLaw.row PySem.Challenge.rw_masksmoved_k29_whole_shifts_until_settle).prog 56).name = ("law" : PySem.Str) := by kernel_rfl
    rw [e] at hmg0
    have e2 := hmg0.symm.trans (He.glo_ok KX G (S.x.t.d.fact 46 (f := .glo "law") rfl))
    cases e2
    exact ⟨K, KX, MM.law_at KX G S⟩
