import PyProof.Rows.All
import Wide.All
import OpenK.AllK
import Wide.FinOn
import HandS.ForMost
import HandS.Wide
import HandS.TupAny
import HandS.TupMul
import HandS.Deep
import HandS.IsInst
import HandS.Zip
import HandS.Style
import HandS.More
import HandS.SetFor
import HandS.Conv
import HandS.Iter
import KE.DataFind
import HandS.Ends
import PySem.Challenge.RW_teachwarrant_k31_topics_that_come_back
set_option Elab.async false
set_option linter.all false
set_option maxRecDepth 100000
set_option maxHeartbeats 2000000
/-! tuples whose one object is known: a new tuple has no dict -/
namespace Pf
open PySem L2

def tupO (its : List Value) : Obj := { cls := .type "tuple", data := .seq its.toArray }
/-- a tuple without a dict, frozen or of the top -/
def TupX (K : PySem.W.Frag) (G : Hp) (a : Addr) (xs : List V) : Prop :=
  (∃ its, G a = some (.frz (tupO its) (.tup xs))) ∨ ∃ (its : Array Value) (n : Nat) (sl : Array (Option Value)), K.lookup a = some ⟨.type "tuple", none, .seq its n, sl⟩ ∧ its.size ≤ sizeLine ∧ Vals xs its.toList
theorem TupX.sq {K : PySem.W.Frag} {G : Hp} {a : Addr} {xs : List V} (h : TupX K G a xs) : SqT K G a xs := by
  rcases h with ⟨its, h⟩ | ⟨its, n, sl, h1, h2, h3⟩
  · exact .inl (.inr ⟨_, h⟩)
  · exact .inr ⟨_, its, n, h1, rfl, rfl, h2, h3⟩
section
variable {X : Cx} {pins : List (Addr × Obj)} {σ : L2.St} {H : Hp} {s : Shared}
theorem layT (I : Inv X pins σ H s) {h' : Heap} {its : List Value} {xs : List V} {tk : Nat} (kp : ∀ b u, s.heap.get? b = some u → h'.get? b = some u) (hp : s.heap.objs.size ≤ h'.objs.size) (r : Vals xs its) (hz : xs.length ≤ sizeLine) :
    Inv X pins σ (upd H h'.objs.size (.frz (tupO its) (.tup xs))) { s with heap := h'.push (tupO its), toks := tk } ∧ H h'.objs.size = none :=
  ⟨I.laid (fun b u e => Heap.get?_push_of_some _ (kp b u e)) hp ⟨Heap.get?_push_size _ rfl, hz, its, r, PyProof.Rows.IsTup.new _ _⟩, I.hok.fresh hp⟩
/-- the dict of such a tuple -/
theorem TupX.bare (I : Inv X pins σ H s) {a : Addr} {xs : List V} (h : TupX X.K H a xs) : ∃ o, s.heap.get? a = some o ∧ o.cls = .type "tuple" ∧ o.dict = none ∧ ∃ its n, o.data = .seq its n ∧ Vals xs its.toList := by
  rcases h with ⟨its, h⟩ | ⟨its, n, sl, h1, h2, h3⟩
  · obtain ⟨e, _, its2, r, ⟨o, e2, _, n2, d2⟩⟩ := I.hok a _ h
    rw [e] at e2
    cases e2
    have d3 : its.toArray = its2.toArray := (PySem.Data.seq.inj d2).1
    refine ⟨_, e, rfl, rfl, its.toArray, _, rfl, ?_⟩
    rw [d3]
    exact r
  · exact ⟨_, I.kIn a _ h1, rfl, rfl, its, n, rfl, h3⟩
end
section
variable {X : Cx} {es : List Expr} {t : TA} {pos : Pos}
/-- (a, b, ..) -/
def tTupX (t : TA) : TE := fun σ H Q => t σ H fun xs H1 => xs.length ≤ sizeLine ∧ ∀ p its, H1 p = none → Q (.ref p) (upd H1 p (.frz (tupO its) (.tup xs)))
theorem peX_tup {k : Nat} (h : PA X es t) : PE X (.Tuple es k pos) (tTupX t) := ⟨fun pins s σ H Q I hq => by
  refine wpAny_Tuple_spliced (thn (h.run pos pins s σ H _ I hq) fun us s1 y => ?_)
  obtain ⟨xs, H1, I1, r, z, q⟩ := y
  obtain ⟨I2, f⟩ := layT (tk := s1.toks) I1 (h' := s1.heap) (fun _ _ e => e) (Nat.le_refl _) r z
  exact ⟨by rw [← r.length]; exact z, V.ref _, _, I2, rfl, q _ _ f⟩⟩
/-- t + u -/
def rCatX (K : PySem.W.Frag) : R2 := fun x y H Q => ∃ a b xs ys, x = .ref a ∧ y = .ref b ∧ SqT K H a xs ∧ SqT K H b ys ∧ xs.length + ys.length ≤ sizeLine ∧
  (xs = [] → Q (.ref b) H) ∧ (xs ≠ [] → ys = [] → Q (.ref a) H) ∧ (xs ≠ [] → ys ≠ [] → ∀ p its, H p = none → Q (.ref p) (upd H p (.frz (tupO its) (.tup (xs ++ ys)))))
theorem opX_cat : OpR X (binaryOp .Add) (rCatX X.K) := fun pins s σ H x y v u Q I rx ry h => by
  obtain ⟨a, b, xs, ys, e1, e2, ha, hb, hz, q0, q1, q2⟩ := h
  subst e1 e2
  cases rx
  cases ry
  obtain ⟨vs, r, p, _⟩ := I.tuple ha
  obtain ⟨ws, r', p', _⟩ := I.tuple hb
  by_cases hx : xs = []
  · have e : vs = [] := r.nil_iff.mpr hx
    subst e
    exact cat_tup0 p p' ⟨V.ref _, H, I, rfl, q0 hx⟩
  · refine HT.cat_tup p p' (fun z => hx (r.nil_iff.mp z)) (fun z => ⟨V.ref _, H, I, rfl, q1 hx (r'.nil_iff.mp z)⟩) (fun z => ?_) (by rw [← r.length, ← r'.length]; exact hz)
    obtain ⟨I2, f⟩ := layT (tk := s.toks) I (h' := s.heap) (fun _ _ e => e) (Nat.le_refl _) (r.append r') (by rw [List.length_append]; exact hz)
    exact ⟨V.ref _, _, I2, rfl, q2 hx (fun w => z (r'.nil_iff.mpr w)) _ _ f⟩
/-- t[lo:hi] -/
def rSlX (K : PySem.W.Frag) : V → Option Int → Option Int → Hp → VK → Prop := fun x lo hi H Q => ∃ a xs, x = .ref a ∧ SqT K H a xs ∧
  (HT.sIx xs.length 0 lo = 0 ∧ HT.sIx xs.length xs.length hi = xs.length → Q (.ref a) H) ∧ ∀ p its, H p = none → Q (.ref p) (upd H p (.frz (tupO its) (.tup (cutV xs lo hi))))
theorem slX_tup : SlR X (rSlX X.K) := fun pins s σ H x v vl vu lo hi sl Q I rx hs pl pu h => by
  obtain ⟨a, xs, e, hx, q1, q2⟩ := h
  subst e
  cases rx
  obtain ⟨vs, r, p, hz⟩ := I.tuple hx
  have hl : vs.toArray.size = xs.length := (List.size_toArray).trans r.length.symm
  refine ⟨"tuple", _, PyProof.Rows.slot_tuple_getitem.lookup, p.typeIs, ?_⟩
  by_cases hw : HT.sIx xs.length 0 lo = 0 ∧ HT.sIx xs.length xs.length hi = xs.length
  · exact getItem_tuple_whole p hs pl pu (hl ▸ hw) ⟨V.ref _, H, I, rfl, q1 hw⟩
  · refine HT.getItem_tuple_cut p hs pl pu (hl ▸ hw) ?_ (hl ▸ hz)
    rw [hl]
    obtain ⟨I2, f⟩ := layT (tk := s.toks) I (h' := s.heap) (fun _ _ e => e) (Nat.le_refl _) (its := (vs.drop (HT.sIx xs.length 0 lo)).take (HT.sIx xs.length xs.length hi - HT.sIx xs.length 0 lo)) (xs := cutV xs lo hi) ((r.drop _).take _) (Nat.le_trans (cutV_length xs lo hi) hz)
    exact ⟨V.ref _, _, I2, rfl, q2 _ _ f⟩
/-- tuple(x) of a list, of a tuple -/
theorem callX_tuple : CallR X (.type "tuple") (fun xs H Q => ∃ p ys, xs = [.ref p] ∧ ((SqL X.K H p ys ∧ ∀ l its, H l = none → Q (.ref l) (upd H l (.frz (tupO its) (.tup ys)))) ∨ (SqT X.K H p ys ∧ Q (.ref p) H))) := fun pins s σ H xs us Q I r h => by
  obtain ⟨p, ys, e, h⟩ := h
  subst e
  obtain ⟨u, rfl, rx⟩ := vals1 r
  cases rx
  rcases h with ⟨hq, q⟩ | ⟨hq, q⟩
  · obtain ⟨vs, r1, pl, hz⟩ := I.list hq
    refine call_tuple_list pl.isList (fun h' kp => ?_) (by rw [List.size_toArray, ← r1.length]; exact hz)
    have I1 : Inv X pins σ H { s with heap := h' } := I.kept (t' := s.toks) kp
    obtain ⟨I2, f⟩ := layT (tk := s.toks) I1 (h' := h') (fun _ _ e => e) (Nat.le_refl _) r1 hz
    exact ⟨V.ref _, _, I2, rfl, q _ _ f⟩
  · obtain ⟨vs, _, pt, _⟩ := I.tuple hq
    exact call_tuple_same pt ⟨V.ref _, H, I, rfl, q⟩
end
end Pf

/-! Pf: a def's run told by plain data. Values, operations, the relation between slots and data. -/
namespace Pf
open PySem L2

abbrev D := PyData
/-- what a slot holds: data; a dict that no one changes; a list, a dict of its own (p: a parameter that the caller keeps); a list that is read alone (the script) -/
inductive SV where
  | dat (d : D)
  | fdic (kvs : List (Key × D))
  | kdic (kvs : List (Key × D))
  | olst (ds : List D)
  | odic (p : Bool) (kvs : List (Key × D))
  | rlst (ds : List D)
abbrev En := List (Option SV)
def ownB : SV → Bool
  | .olst _ => true
  | .odic _ _ => true
  | _ => false

/-! ### representation -/
/-- what is frozen stands so (a dict may be locked while it is walked) -/
def GH (G H : Hp) : Prop := ∀ a u, G a = some u → H a = some u ∨ ∃ kvs o, u = .dK kvs ∧ H a = some (.frz o u)
def Ex (G G' : Hp) : Prop := ∀ a u, G a = some u → G' a = some u
theorem Ex.refl (G : Hp) : Ex G G := fun _ _ h => h
theorem Ex.trans {G G1 G2 : Hp} (a : Ex G G1) (b : Ex G1 G2) : Ex G G2 := fun x u h => b x u (a x u h)
theorem Ex.rd {G G' : Hp} (e : Ex G G') {a : Addr} {u : HO} (h : Rd G a u) : Rd G' a u := by
  rcases h with h | ⟨o, h⟩
  · exact .inl (e _ _ h)
  · exact .inr ⟨o, e _ _ h⟩
theorem GH.rd {G H : Hp} (e : GH G H) {a : Addr} {u : HO} (h : Rd G a u) : Rd H a u := by
  rcases h with h | ⟨o, h⟩
  · rcases e _ _ h with z | ⟨_, o, _, z⟩
    · exact .inl z
    · exact .inr ⟨o, z⟩
  · rcases e _ _ h with z | ⟨_, _, q, _⟩
    · exact .inr ⟨o, z⟩
    · cases q
theorem GH.lst {G H : Hp} (e : GH G H) {a : Addr} {xs : List V} (h : G a = some (.lst xs)) : H a = some (.lst xs) := by
  rcases e _ _ h with z | ⟨_, _, q, _⟩
  · exact z
  · cases q
mutual
inductive DP (K : PySem.W.Frag) (G : Hp) : V → D → Prop
  | non : DP K G .non .none
  | bl (b : Bool) : DP K G (.bl b) (.bool b)
  | int (i : Int) : DP K G (.int i) (.int i)
  | str (x : Str) : DP K G (.str x) (.str x)
  | lst {a : Addr} {xs : List V} {ds : List D} : G a = some (.lst xs) → DPs K G xs ds → DP K G (.ref a) (.list ds)
  | tup {a : Addr} {xs : List V} {ds : List D} : TupX K G a xs → DPs K G xs ds → DP K G (.ref a) (.tuple ds)
inductive DPs (K : PySem.W.Frag) (G : Hp) : List V → List D → Prop
  | nil : DPs K G [] []
  | cons {v : V} {vs : List V} {d : D} {ds : List D} : DP K G v d → DPs K G vs ds → DPs K G (v :: vs) (d :: ds)
end
section
variable {K : PySem.W.Frag} {G G' H H' : Hp}
theorem seqT_ex {a : Addr} {xs : List V} (g : Ex G H) (h : SqT K G a xs) : SqT K H a xs := h.elim (fun z => .inl (g.rd z)) .inr
theorem tupX_ex {a : Addr} {xs : List V} (g : Ex G H) (h : TupX K G a xs) : TupX K H a xs := h.elim (fun ⟨its, z⟩ => .inl ⟨its, g _ _ z⟩) .inr
theorem seqT_gh {a : Addr} {xs : List V} (g : GH G H) (h : SqT K G a xs) : SqT K H a xs := h.elim (fun z => .inl (g.rd z)) .inr
mutual
theorem dp_ex (g : Ex G H) : ∀ (d : D) (v : V), DP K G v d → DP K H v d
  | .none, _, h => by cases h; exact .non
  | .bool b, _, h => by cases h; exact .bl b
  | .int i, _, h => by cases h; exact .int i
  | .str x, _, h => by cases h; exact .str x
  | .list ds, _, h => by
    cases h with
    | lst hs ha => exact .lst (g _ _ hs) (dps_ex g ds _ ha)
  | .tuple ds, _, h => by
    cases h with
    | tup hs ha => exact .tup (tupX_ex g hs) (dps_ex g ds _ ha)
  | .dict _, _, h => by cases h
theorem dps_ex (g : Ex G H) : ∀ (ds : List D) (vs : List V), DPs K G vs ds → DPs K H vs ds
  | [], _, h => by cases h; exact .nil
  | d :: ds, _, h => by
    cases h with
    | cons h1 h2 => exact .cons (dp_ex g d _ h1) (dps_ex g ds _ h2)
end
mutual
theorem dp_dp (g : GH G H) : ∀ (d : D) (v : V), DP K G v d → Dp K H v d
  | .none, _, h => by cases h; exact .non
  | .bool b, _, h => by cases h; exact .bl b
  | .int i, _, h => by cases h; exact .int i
  | .str x, _, h => by cases h; exact .str x
  | .list ds, _, h => by
    cases h with
    | lst hs ha => exact .lst (SqL.of (g.lst hs)) (dps_dp g ds _ ha)
  | .tuple ds, _, h => by
    cases h with
    | tup hs ha => exact .tup (seqT_gh g hs.sq) (dps_dp g ds _ ha)
  | .dict _, _, h => by cases h
theorem dps_dp (g : GH G H) : ∀ (ds : List D) (vs : List V), DPs K G vs ds → DpAll K H vs ds
  | [], _, h => by cases h; exact .nil
  | d :: ds, _, h => by
    cases h with
    | cons h1 h2 => exact .cons (dp_dp g d _ h1) (dps_dp g ds _ h2)
end
theorem DPs.length : ∀ {vs : List V} {ds : List D}, DPs K G vs ds → vs.length = ds.length
  | _, _, .nil => rfl
  | _, _, .cons _ t => congrArg Nat.succ (DPs.length t)
theorem DPs.get : ∀ {vs : List V} {ds : List D} {i : Nat} {d : D}, DPs K G vs ds → ds[i]? = some d → ∃ v, vs[i]? = some v ∧ DP K G v d
  | _, _, _, _, .nil, e => by simp at e
  | _, _, 0, _, .cons r _, e => by simp at e; subst e; exact ⟨_, rfl, r⟩
  | _, _, i + 1, d, .cons _ t, e => by
    obtain ⟨u, h1, h2⟩ := DPs.get (i := i) (d := d) t (by simpa using e)
    exact ⟨u, by simpa using h1, h2⟩
theorem DPs.get' : ∀ {vs : List V} {ds : List D} {i : Nat} {v : V}, DPs K G vs ds → vs[i]? = some v → ∃ d, ds[i]? = some d ∧ DP K G v d
  | _, _, _, _, .nil, e => by simp at e
  | _, _, 0, _, .cons r _, e => by simp at e; subst e; exact ⟨_, rfl, r⟩
  | _, _, i + 1, d, .cons _ t, e => by
    obtain ⟨u, h1, h2⟩ := DPs.get' (i := i) (v := d) t (by simpa using e)
    exact ⟨u, by simpa using h1, h2⟩
theorem DPs.append : ∀ {vs ws : List V} {ds es : List D}, DPs K G vs ds → DPs K G ws es → DPs K G (vs ++ ws) (ds ++ es)
  | _, _, _, _, .nil, s => s
  | _, _, _, _, .cons r t, s => .cons r (DPs.append t s)
theorem DPs.take : ∀ {vs : List V} {ds : List D} (n : Nat), DPs K G vs ds → DPs K G (vs.take n) (ds.take n)
  | _, _, 0, _ => .nil
  | _, _, _ + 1, .nil => .nil
  | _, _, n + 1, .cons r t => .cons r (DPs.take n t)
theorem DPs.drop : ∀ {vs : List V} {ds : List D} (n : Nat), DPs K G vs ds → DPs K G (vs.drop n) (ds.drop n)
  | _, _, 0, r => r
  | _, _, _ + 1, .nil => .nil
  | _, _, n + 1, .cons _ t => DPs.drop n t
theorem DPs.set {v : V} {d : D} (r : DP K G v d) : ∀ {vs : List V} {ds : List D} (i : Nat), DPs K G vs ds → DPs K G (vs.set i v) (ds.set i d)
  | _, _, _, .nil => .nil
  | _, _, 0, .cons _ t => .cons r t
  | _, _, i + 1, .cons q t => .cons q (DPs.set r i t)
theorem DPs.reverse : ∀ {vs : List V} {ds : List D}, DPs K G vs ds → DPs K G vs.reverse ds.reverse
  | _, _, .nil => .nil
  | _, _, .cons r t => by
    rw [List.reverse_cons, List.reverse_cons]
    exact DPs.append (DPs.reverse t) (.cons r .nil)
theorem DPs.erase : ∀ {vs : List V} {ds : List D} (i : Nat), DPs K G vs ds → DPs K G (vs.eraseIdx i) (ds.eraseIdx i)
  | _, _, _, .nil => .nil
  | _, _, 0, .cons _ t => t
  | _, _, i + 1, .cons r t => .cons r (DPs.erase i t)
theorem DPs.rep {vs : List V} {ds : List D} (h : DPs K G vs ds) : ∀ k : Nat, DPs K G (List.replicate k vs).flatten (List.replicate k ds).flatten
  | 0 => .nil
  | k + 1 => by
    rw [List.replicate_succ, List.replicate_succ, List.flatten_cons, List.flatten_cons]
    exact DPs.append h (DPs.rep h k)
/-- lists of ints, of bools -/
theorem DPs.ints : ∀ {vs : List V} {ns : List Int}, DPs K G vs (ns.map PyData.int) → vs = ns.map V.int
  | [], [], _ => rfl
  | _ :: _, [], h => by cases h
  | [], _ :: _, h => by cases h
  | _ :: _, n :: ns, h => by
    cases h with
    | cons r t =>
      cases r
      rw [DPs.ints t]
      rfl
theorem DPs.bools : ∀ {vs : List V} {ns : List Bool}, DPs K G vs (ns.map PyData.bool) → vs = ns.map V.bl
  | [], [], _ => rfl
  | _ :: _, [], h => by cases h
  | [], _ :: _, h => by cases h
  | _ :: _, n :: ns, h => by
    cases h with
    | cons r t =>
      cases r
      rw [DPs.bools t]
      rfl
theorem DPs.of_ints : ∀ (ns : List Int), DPs K G (ns.map V.int) (ns.map PyData.int)
  | [] => .nil
  | n :: ns => .cons (.int n) (DPs.of_ints ns)
end
/-- a dict's pairs -/
def KD (K : PySem.W.Frag) (G : Hp) : List (Key × V) → List (Key × D) → Prop := Paired fun p q => p.1 = q.1 ∧ DP K G p.2 q.2
theorem KD.ex {K : PySem.W.Frag} {G H : Hp} (g : Ex G H) {ks : List (Key × V)} {kvs : List (Key × D)} (h : KD K G ks kvs) : KD K H ks kvs := Paired.mapP h fun _ _ z => ⟨z.1, dp_ex g _ _ z.2⟩

/-- a value of an expression -/
def VR (K : PySem.W.Frag) (G : Hp) (v : V) : SV → Prop
  | .dat d => DP K G v d
  | .fdic kvs => ∃ a ks, v = .ref a ∧ G a = some (.dK ks) ∧ KD K G ks kvs
  | .kdic kvs => ∃ a o ks, v = .ref a ∧ G a = some (.frz o (.dK ks)) ∧ KD K G ks kvs
  | .rlst ds => ∃ a vs, v = .ref a ∧ SqL K G a vs ∧ DPs K G vs ds
  | _ => False
/-- a slot's -/
def SR (K : PySem.W.Frag) (G H : Hp) (v : V) : SV → Prop
  | .dat d => DP K G v d
  | .fdic kvs => ∃ a ks, v = .ref a ∧ G a = some (.dK ks) ∧ KD K G ks kvs
  | .kdic kvs => ∃ a o ks, v = .ref a ∧ G a = some (.frz o (.dK ks)) ∧ KD K G ks kvs
  | .rlst ds => ∃ a vs, v = .ref a ∧ SqL K G a vs ∧ DPs K G vs ds
  | .olst ds => ∃ a vs, v = .ref a ∧ H a = some (.lst vs) ∧ G a = none ∧ DPs K G vs ds
  | .odic _ kvs => ∃ a ks, v = .ref a ∧ H a = some (.dK ks) ∧ G a = none ∧ KD K G ks kvs
theorem seqL_ex {K : PySem.W.Frag} {G H : Hp} {a : Addr} {xs : List V} (g : Ex G H) (h : SqL K G a xs) : SqL K H a xs := h.elim (fun z => .inl (g.rd z)) .inr
theorem seqL_gh {K : PySem.W.Frag} {G H : Hp} {a : Addr} {xs : List V} (g : GH G H) (h : SqL K G a xs) : SqL K H a xs := h.elim (fun z => .inl (g.rd z)) .inr
theorem VR.ex {K : PySem.W.Frag} {G G' : Hp} (g : Ex G G') {v : V} : ∀ {sv : SV}, VR K G v sv → VR K G' v sv
  | .dat d, h => dp_ex g d v h
  | .fdic kvs, ⟨a, ks, e, r, k⟩ => ⟨a, ks, e, g _ _ r, k.ex g⟩
  | .kdic kvs, ⟨a, o, ks, e, r, k⟩ => ⟨a, o, ks, e, g _ _ r, k.ex g⟩
  | .rlst ds, ⟨a, vs, e, r, k⟩ => ⟨a, vs, e, seqL_ex g r, dps_ex g _ _ k⟩
  | .olst _, h => h
  | .odic _ _, h => h
theorem VR.sr {K : PySem.W.Frag} {G H : Hp} {v : V} : ∀ {sv : SV}, VR K G v sv → SR K G H v sv
  | .dat _, h => h
  | .fdic _, h => h
  | .kdic _, h => h
  | .rlst _, h => h
  | .olst _, h => h.elim
  | .odic _ _, h => h.elim
theorem VR.not_own {K : PySem.W.Frag} {G : Hp} {v : V} : ∀ {sv : SV}, VR K G v sv → ownB sv = false
  | .dat _, _ => rfl
  | .fdic _, _ => rfl
  | .kdic _, _ => rfl
  | .rlst _, _ => rfl
  | .olst _, h => h.elim
  | .odic _ _, h => h.elim
theorem SR.vr {K : PySem.W.Frag} {G H : Hp} {v : V} : ∀ {sv : SV}, SR K G H v sv → ownB sv = false → VR K G v sv
  | .dat _, h, _ => h
  | .fdic _, h, _ => h
  | .kdic _, h, _ => h
  | .rlst _, h, _ => h
  | .olst _, _, h => nomatch h
  | .odic _ _, _, h => nomatch h
theorem SR.own_at {K : PySem.W.Frag} {G H : Hp} {v : V} : ∀ {sv : SV}, SR K G H v sv → ownB sv = true → ∃ a, v = .ref a ∧ H a ≠ none ∧ G a = none
  | .olst _, ⟨a, vs, e, h, g, _⟩, _ => ⟨a, e, by rw [h]; exact Option.some_ne_none _, g⟩
  | .odic _ _, ⟨a, vs, e, h, g, _⟩, _ => ⟨a, e, by rw [h]; exact Option.some_ne_none _, g⟩
  | .dat _, _, h => nomatch h
  | .fdic _, _, h => nomatch h
  | .kdic _, _, h => nomatch h
  | .rlst _, _, h => nomatch h
/-- .. carried: G grows, but not at the own address; H stands there -/
theorem SR.carry {K : PySem.W.Frag} {G G' H H' : Hp} (g : Ex G G') {v : V} {sv : SV} (h : SR K G H v sv)
    (c : ∀ a o, ownB sv = true → v = .ref a → H a = some o → G a = none → H' a = some o ∧ G' a = none) : SR K G' H' v sv := by
  cases sv with
  | dat d => exact dp_ex g d v h
  | fdic kvs => exact VR.ex (sv := .fdic kvs) g h
  | kdic kvs => exact VR.ex (sv := .kdic kvs) g h
  | rlst ds => exact VR.ex (sv := .rlst ds) g h
  | olst ds =>
    obtain ⟨a, vs, e, h1, h2, h3⟩ := h
    obtain ⟨c1, c2⟩ := c a _ rfl e h1 h2
    exact ⟨a, vs, e, c1, c2, dps_ex g ds vs h3⟩
  | odic p kvs =>
    obtain ⟨a, vs, e, h1, h2, h3⟩ := h
    obtain ⟨c1, c2⟩ := c a _ rfl e h1 h2
    exact ⟨a, vs, e, c1, c2, h3.ex g⟩

/-- the addresses that the slots own -/
def Own (σ : L2.St) (en : En) (b : Addr) : Prop := ∃ (i : Nat) (sv : SV), en[i]? = some (some sv) ∧ ownB sv = true ∧ σ[i]? = some (some (V.ref b))
structure Rel (K : PySem.W.Frag) (G H : Hp) (σ : L2.St) (en : En) : Prop where
  gh : GH G H
  len : en.length = σ.length
  slot : ∀ (i : Nat) (sv : SV), en[i]? = some (some sv) → ∃ v, σ[i]? = some (some v) ∧ SR K G H v sv
  sep : ∀ (i j : Nat) (sv sv' : SV) (v : V), en[i]? = some (some sv) → en[j]? = some (some sv') → ownB sv = true → ownB sv' = true → σ[i]? = some (some v) → σ[j]? = some (some v) → i = j
theorem Rel.own {K : PySem.W.Frag} {G H : Hp} {σ : L2.St} {en : En} (R : Rel K G H σ en) {b : Addr} (o : Own σ en b) : H b ≠ none ∧ G b = none := by
  obtain ⟨i, sv, e, w, f⟩ := o
  obtain ⟨v, f', s⟩ := R.slot i sv e
  rw [f] at f'
  cases f'
  obtain ⟨a, e', h⟩ := s.own_at w
  cases e'
  exact h
/-- a step of a def's run -/
structure Stp (K : PySem.W.Frag) (σ : L2.St) (G H : Hp) (en : En) (σ' : L2.St) (G' H' : Hp) (en' : En) : Prop where
  rel : Rel K G' H' σ' en'
  ex : Ex G G'
  frame : ∀ b o, H b = some o → ¬ Own σ en b → H' b = some o
  live : ∀ b, H b ≠ none → H' b ≠ none
  fresh : ∀ b, G' b ≠ none → G b ≠ none ∨ H b = none ∨ Own σ en b
  sub : ∀ b, Own σ' en' b → Own σ en b ∨ H b = none
  prot : ∀ (i : Nat) kvs, en[i]? = some (some (SV.odic true kvs)) → σ'[i]? = σ[i]? ∧ ∃ kvs', en'[i]? = some (some (SV.odic true kvs'))
section
variable {K : PySem.W.Frag} {σ σ1 σ2 : L2.St} {G G1 G2 H H1 H2 : Hp} {en en1 en2 : En}
theorem Stp.refl (R : Rel K G H σ en) : Stp K σ G H en σ G H en :=
  ⟨R, Ex.refl G, fun _ _ h _ => h, fun _ h => h, fun _ h => .inl h, fun _ h => .inl h, fun i kvs h => ⟨rfl, kvs, h⟩⟩
theorem Stp.trans (a : Stp K σ G H en σ1 G1 H1 en1) (b : Stp K σ1 G1 H1 en1 σ2 G2 H2 en2) : Stp K σ G H en σ2 G2 H2 en2 where
  rel := b.rel
  ex := a.ex.trans b.ex
  frame := fun x o h n => b.frame x o (a.frame x o h n) fun z => (a.sub x z).elim n fun q => by rw [q] at h; cases h
  live := fun x h => b.live x (a.live x h)
  fresh := fun x h => by
    rcases b.fresh x h with z | z | z
    · exact a.fresh x z
    · exact .inr (.inl (Classical.byContradiction fun q => a.live x q z))
    · exact (a.sub x z).elim (fun q => .inr (.inr q)) fun q => .inr (.inl q)
  sub := fun x h => (b.sub x h).elim (a.sub x) fun q => .inr (Classical.byContradiction fun z => a.live x z q)
  prot := fun i kvs h => by
    obtain ⟨e1, kv1, f1⟩ := a.prot i kvs h
    obtain ⟨e2, kv2, f2⟩ := b.prot i kv1 f1
    exact ⟨e2.trans e1, kv2, f2⟩
end
/-- a step that writes nothing that stood -/
structure Pst (G H G' H' : Hp) : Prop where
  gh : GH G' H'
  ex : Ex G G'
  frame : ∀ b o, H b = some o → H' b = some o
  fresh : ∀ b, G' b ≠ none → G b ≠ none ∨ H b = none
section
variable {K : PySem.W.Frag} {σ : L2.St} {G G1 G2 H H1 H2 : Hp} {en : En}
theorem Pst.refl (g : GH G H) : Pst G H G H := ⟨g, Ex.refl G, fun _ _ h => h, fun _ h => .inl h⟩
theorem Pst.free (p : Pst G H G1 H1) {b : Addr} (h : H1 b = none) : H b = none := by
  cases e : H b with
  | none => rfl
  | some o => rw [p.frame b o e] at h; cases h
theorem Pst.trans (a : Pst G H G1 H1) (b : Pst G1 H1 G2 H2) : Pst G H G2 H2 :=
  ⟨b.gh, a.ex.trans b.ex, fun x o h => b.frame x o (a.frame x o h), fun x h => (b.fresh x h).elim (a.fresh x) fun q => .inr (a.free q)⟩
theorem Pst.rel (p : Pst G H G1 H1) (R : Rel K G H σ en) : Rel K G1 H1 σ en where
  gh := p.gh
  len := R.len
  slot := fun i sv e => by
    obtain ⟨v, f, s⟩ := R.slot i sv e
    refine ⟨v, f, s.carry p.ex fun a o _ _ ha ga => ⟨p.frame a o ha, ?_⟩⟩
    cases q : G1 a with
    | none => rfl
    | some u =>
      rcases p.fresh a (by rw [q]; exact Option.some_ne_none _) with z | z
      · exact absurd ga z
      · rw [z] at ha; cases ha
  sep := R.sep
theorem Pst.stp (p : Pst G H G1 H1) (R : Rel K G H σ en) : Stp K σ G H en σ G1 H1 en :=
  ⟨p.rel R, p.ex, fun b o h _ => p.frame b o h, fun b h => by
    cases e : H b with
    | none => exact absurd e h
    | some o => rw [p.frame b o e]; exact Option.some_ne_none _, fun b h => (p.fresh b h).imp id .inl, fun _ h => .inl h, fun i kvs h => ⟨rfl, kvs, h⟩⟩
theorem GH.free {G H : Hp} (g : GH G H) {p : Addr} (h : H p = none) : G p = none := by
  cases e : G p with
  | none => rfl
  | some u =>
    rcases g p u e with z | ⟨_, o, _, z⟩
    · rw [h] at z; cases z
    · rw [h] at z; cases z
/-- H grows at a free place -/
theorem GH.lay {G H : Hp} (g : GH G H) {p : Addr} {o : HO} (h : H p = none) : GH G (upd H p o) := fun a u e => by
  have ne : a ≠ p := fun z => by rw [z, g.free h] at e; cases e
  rw [upd_ne ne]
  exact g a u e
/-- what stands and is not frozen is frozen -/
theorem GH.freeze {G H : Hp} (g : GH G H) {p : Addr} {o : HO} (h : H p = some o) : GH (upd G p o) H := fun a u e => by
  by_cases z : a = p
  · subst z
    rw [upd_same] at e
    exact .inl (h.trans e)
  · rw [upd_ne z] at e
    exact g a u e
/-- .. or written where nothing is frozen -/
theorem GH.write {G H : Hp} (g : GH G H) {p : Addr} {o : HO} (h : G p = none) : GH G (upd H p o) := fun a u e => by
  have ne : a ≠ p := fun z => by rw [z, h] at e; cases e
  rw [upd_ne ne]
  exact g a u e
theorem Ex.new {G : Hp} {p : Addr} {o : HO} (h : G p = none) : Ex G (upd G p o) := fun a u e => by rw [upd_ne (ne_of_none e h)]; exact e
theorem Pst.new {G H : Hp} (g : GH G H) {p : Addr} {o : HO} (h : H p = none) : Pst G H (upd G p o) (upd H p o) where
  gh := (g.lay h).freeze upd_same
  ex := Ex.new (g.free h)
  frame := fun a u e => by rw [upd_ne (ne_of_none e h)]; exact e
  fresh := fun b q => by
    by_cases e : b = p
    · subst e; exact .inr h
    · rw [upd_ne e] at q; exact .inl q
/-- a new object, not frozen -/
theorem Pst.lay {G H : Hp} (g : GH G H) {p : Addr} {o : HO} (h : H p = none) : Pst G H G (upd H p o) where
  gh := g.lay h
  ex := Ex.refl G
  frame := fun a u e => by rw [upd_ne (ne_of_none e h)]; exact e
  fresh := fun b q => .inl q
end
end Pf

namespace Pf
open PySem L2

/-! ### operations on data -/
def bigN : Nat := 2 ^ 4000
def Sm (i : Int) : Prop := i.natAbs < bigN
instance (i : Int) : Decidable (Sm i) := inferInstanceAs (Decidable (_ < _))
def lim : Nat := 100000
inductive Bin where
  | add | sub | mul | fdiv | mod | pow
def Bin.op : Bin → Operator
  | .add => .Add | .sub => .Sub | .mul => .Mult | .fdiv => .FloorDiv | .mod => .Mod | .pow => .Pow
def addD : D → D → Option D
  | .int i, .int j => some (.int (i + j))
  | .str x, .str y => if x.length + y.length ≤ lim then some (.str (x ++ y)) else none
  | .list xs, .list ys => if xs.length + ys.length ≤ lim then some (.list (xs ++ ys)) else none
  | .tuple xs, .tuple ys => if xs.length + ys.length ≤ lim then some (.tuple (xs ++ ys)) else none
  | _, _ => none
def subD : D → D → Option D
  | .int i, .int j => some (.int (i - j))
  | _, _ => none
def mulD : D → D → Option D
  | .int i, .int j => if Sm i ∧ Sm j then some (.int (i * j)) else none
  | .list xs, .int k => if 0 ≤ k ∧ k ≤ 1000 ∧ xs.length ≤ 90 then some (.list (List.replicate k.toNat xs).flatten) else none
  | _, _ => none
def fdivD : D → D → Option D
  | .int i, .int j => if j ≠ 0 ∧ Sm j then some (.int (i.fdiv j)) else none
  | _, _ => none
def modD : D → D → Option D
  | .int i, .int j => if j ≠ 0 then some (.int (i.fmod j)) else none
  | _, _ => none
def powD : D → D → Option D
  | .int i, .int j => if 0 ≤ j ∧ j ≤ 1000 ∧ i.natAbs ≤ 1000 then some (.int (i ^ j.toNat)) else none
  | _, _ => none
def binD : Bin → D → D → Option D
  | .add => addD | .sub => subD | .mul => mulD | .fdiv => fdivD | .mod => modD | .pow => powD

/-- an operand: a value, or a list that a slot owns -/
def VD (K : PySem.W.Frag) (G H : Hp) (v : V) (d : D) : Prop :=
  DP K G v d ∨ ∃ a vs ds, v = .ref a ∧ d = .list ds ∧ H a = some (.lst vs) ∧ DPs K G vs ds
/-- what is wanted of a result -/
def Ret (K : PySem.W.Frag) (G H : Hp) (d : D) (Q : VK) : Prop := ∀ v G' H', Pst G H G' H' → DP K G' v d → Q v H'
section
variable {K : PySem.W.Frag} {G H : Hp} {v : V} {Q : VK}
theorem VD.int {i : Int} (h : VD K G H v (.int i)) : v = .int i := by
  rcases h with h | ⟨a, vs, ds, _, e, _⟩
  · cases h; rfl
  · cases e
theorem VD.str {i : Str} (h : VD K G H v (.str i)) : v = .str i := by
  rcases h with h | ⟨a, vs, ds, _, e, _⟩
  · cases h; rfl
  · cases e
theorem VD.bl {i : Bool} (h : VD K G H v (.bool i)) : v = .bl i := by
  rcases h with h | ⟨a, vs, ds, _, e, _⟩
  · cases h; rfl
  · cases e
theorem VD.non (h : VD K G H v .none) : v = .non := by
  rcases h with h | ⟨a, vs, ds, _, e, _⟩
  · cases h; rfl
  · cases e
theorem VD.lst (g : GH G H) {ds : List D} (h : VD K G H v (.list ds)) : ∃ a vs, v = .ref a ∧ H a = some (.lst vs) ∧ DPs K G vs ds := by
  rcases h with h | ⟨a, vs, ds', e1, e, h1, h3⟩
  · cases h with
    | lst h1 h2 => exact ⟨_, _, rfl, g.lst h1, h2⟩
  · cases e; exact ⟨a, vs, e1, h1, h3⟩
theorem VD.tup {ds : List D} (h : VD K G H v (.tuple ds)) : ∃ a vs, v = .ref a ∧ SqT K G a vs ∧ DPs K G vs ds ∧ DP K G v (.tuple ds) := by
  rcases h with h | ⟨a, vs, ds', e1, e, h1, h3⟩
  · have h' := h
    cases h with
    | tup h1 h2 => exact ⟨_, _, rfl, h1.sq, h2, h'⟩
  · cases e
theorem VD.dp (g : GH G H) {d : D} (h : VD K G H v d) : Dp K H v d := by
  rcases h with h | ⟨a, vs, ds, e1, e, h1, h3⟩
  · exact dp_dp g _ _ h
  · subst e1; subst e
    exact .lst (SqL.of h1) (dps_dp g _ _ h3)
theorem Ret.at (g : GH G H) {d : D} (r : Ret K G H d Q) (h : DP K G v d) : Q v H := r _ _ _ (Pst.refl g) h
theorem Ret.i (g : GH G H) {i : Int} (r : Ret K G H (.int i) Q) : Q (.int i) H := r.at g (.int i)
theorem Ret.b (g : GH G H) {i : Bool} (r : Ret K G H (.bool i) Q) : Q (.bl i) H := r.at g (.bl i)
theorem Ret.s (g : GH G H) {i : Str} (r : Ret K G H (.str i) Q) : Q (.str i) H := r.at g (.str i)
theorem Ret.l (g : GH G H) {ds : List D} {vs : List V} (r : Ret K G H (.list ds) Q) (h : DPs K G vs ds) {p : Addr} (hp : H p = none) : Q (.ref p) (upd H p (.lst vs)) :=
  r _ _ _ (Pst.new g hp) (.lst upd_same (dps_ex (Ex.new (g.free hp)) _ _ h))
theorem Ret.t (g : GH G H) {ds : List D} {vs : List V} (r : Ret K G H (.tuple ds) Q) (h : DPs K G vs ds) {p : Addr} {its : List Value} (hp : H p = none) : Q (.ref p) (upd H p (.frz (tupO its) (.tup vs))) :=
  r _ _ _ (Pst.new g hp) (.tup (.inl ⟨its, upd_same⟩) (dps_ex (Ex.new (g.free hp)) _ _ h))
end
theorem line_lim : lim ≤ sizeLine := by rw [sizeLine_eq]; decide
theorem big_pos : 0 < bigN := by unfold bigN; exact Nat.two_pow_pos _
theorem Sm.log {i : Int} (h : Sm i) : i.natAbs.log2 < 4000 := PySem.Flt.log2_lt_of (by decide) (show i.natAbs < 2 ^ 4000 from h)

/-- the reading of an operation over data -/
def rD (K : PySem.W.Frag) (f : D → D → Option D) : R2 := fun x y H Q => ∃ G d1 d2 d, GH G H ∧ VD K G H x d1 ∧ VD K G H y d2 ∧ f d1 d2 = some d ∧ Ret K G H d Q
section
variable {X : Cx}
theorem bin_ok (o : Bin) : OpR X (binaryOp o.op) (rD X.K (binD o)) := by
  intro pins s σ H x y v u Q I rx ry h
  obtain ⟨G, d1, d2, d, g, h1, h2, hb, k⟩ := h
  cases o with
  | add =>
    change addD d1 d2 = some d at hb
    unfold addD at hb
    split at hb
    · cases hb
      rw [h1.int] at rx; rw [h2.int] at ry
      exact op_add pins s σ H _ _ v u Q I rx ry ⟨_, _, rfl, rfl, k.i g⟩
    · split at hb
      · rename_i hl
        cases hb
        rw [h1.str] at rx; rw [h2.str] at ry
        exact op_add_str pins s σ H _ _ v u Q I rx ry ⟨_, _, rfl, rfl, Nat.le_trans hl line_lim, k.s g⟩
      · cases hb
    · split at hb
      · rename_i hl
        cases hb
        obtain ⟨a, vs, rfl, ha, hd⟩ := h1.lst g
        obtain ⟨b, ws, rfl, hb', he⟩ := h2.lst g
        exact op_cat pins s σ H _ _ v u Q I rx ry ⟨a, b, vs, ws, rfl, rfl, ha, hb', by rw [hd.length, he.length]; exact Nat.le_trans hl line_lim, fun p hp => k.l g (hd.append he) hp⟩
      · cases hb
    · split at hb
      · rename_i hl
        cases hb
        obtain ⟨a, vs, rfl, ha, hd, hx⟩ := h1.tup
        obtain ⟨b, ws, rfl, hb', he, hy⟩ := h2.tup
        refine opX_cat pins s σ H _ _ v u Q I rx ry ⟨a, b, vs, ws, rfl, rfl, seqT_gh g ha, seqT_gh g hb', by rw [hd.length, he.length]; exact Nat.le_trans hl line_lim, fun z => ?_, fun _ z => ?_, fun _ _ p _ hp => k.t g (hd.append he) hp⟩
        · subst z
          cases hd
          exact k.at g hy
        · subst z
          cases he
          rw [List.append_nil] at k
          exact k.at g hx
      · cases hb
    · cases hb
  | sub =>
    change subD d1 d2 = some d at hb
    unfold subD at hb
    split at hb
    · cases hb
      rw [h1.int] at rx; rw [h2.int] at ry
      exact op_sub pins s σ H _ _ v u Q I rx ry ⟨_, _, rfl, rfl, k.i g⟩
    · cases hb
  | mul =>
    change mulD d1 d2 = some d at hb
    unfold mulD at hb
    split at hb
    · split at hb
      · rename_i hl
        cases hb
        rw [h1.int] at rx; rw [h2.int] at ry
        refine op_mulW pins s σ H _ _ v u Q I rx ry ⟨_, _, rfl, rfl, ?_, k.i g⟩
        have a1 := hl.1.log
        have a2 := hl.2.log
        unfold CMulW
        omega
      · cases hb
    · split at hb
      · rename_i xs kk hl
        cases hb
        obtain ⟨a, vs, rfl, ha, hd⟩ := h1.lst g
        rw [h2.int] at ry
        have hk : kk.toNat ≤ 1000 := by omega
        refine op_rep pins s σ H _ _ v u Q I rx ry ⟨a, kk, vs, rfl, rfl, ha, by omega, by omega, ?_, fun p hp => k.l g (hd.rep _) hp⟩
        rw [hd.length]
        exact Nat.le_trans (Nat.mul_le_mul hl.2.2 hk) (Nat.le_trans (by decide) line_lim)
      · cases hb
    · cases hb
  | fdiv =>
    change fdivD d1 d2 = some d at hb
    unfold fdivD at hb
    split at hb
    · split at hb
      · rename_i hl
        cases hb
        rw [h1.int] at rx; rw [h2.int] at ry
        obtain ⟨t, rfl⟩ := rx
        obtain ⟨t', rfl⟩ := ry
        refine PyProof.Rows.floordiv_int hl.1 ⟨.int _, H, I.tok _, ⟨_, rfl⟩, k.i g⟩ (.inl (PyProof.noPylong_of_log2 ?_))
        have := hl.2.log
        omega
      · cases hb
    · cases hb
  | mod =>
    change modD d1 d2 = some d at hb
    unfold modD at hb
    split at hb
    · split at hb
      · rename_i hl
        cases hb
        rw [h1.int] at rx; rw [h2.int] at ry
        exact op_modN pins s σ H _ _ v u Q I rx ry ⟨_, _, rfl, rfl, hl, k.i g⟩
      · cases hb
    · cases hb
  | pow =>
    change powD d1 d2 = some d at hb
    unfold powD at hb
    split at hb
    · split at hb
      · rename_i hl
        cases hb
        rw [h1.int] at rx; rw [h2.int] at ry
        refine op_pow pins s σ H _ _ v u Q I rx ry ⟨_, _, rfl, rfl, ⟨hl.1, by omega, ?_⟩, k.i g⟩
        exact Nat.lt_of_le_of_lt hl.2.2 (by decide)
      · cases hb
    · cases hb
end
end Pf

namespace Pf
open PySem L2

/-! ### comparisons -/
inductive Cm where
  | eq | ne | lt | le | gt | ge | is | isnot | inn | notin
  deriving DecidableEq
def Cm.op : Cm → CmpOp
  | .eq => .Eq | .ne => .NotEq | .lt => .Lt | .le => .LtE | .gt => .Gt | .ge => .GtE | .is => .Is | .isnot => .IsNot | .inn => .In | .notin => .NotIn
abbrev shp (d : D) : Bool := SeqAt.shaped d
def isN : D → Bool
  | .none => true
  | _ => false
def ordD (f : Int → Int → Bool) : D → D → Option Bool
  | .int i, .int j => some (f i j)
  | _, _ => none
def eqD (a b : D) : Option Bool := if shp a = true ∧ shp b = true then some (PyData.eqv a b) else none
def inD : D → D → Option Bool
  | a, .list xs => if shp a = true ∧ shp (.list xs) = true then some (xs.any fun z => PyData.eqv z a) else none
  | a, .tuple xs => if shp a = true ∧ shp (.tuple xs) = true then some (xs.any fun z => PyData.eqv z a) else none
  | _, _ => none
def isD (a : D) : D → Option Bool
  | .none => some (isN a)
  | _ => none
def cmpD : Cm → D → D → Option Bool
  | .eq => eqD | .ne => fun a b => (eqD a b).map not | .lt => ordD fun i j => decide (i < j) | .le => ordD fun i j => decide (i ≤ j)
  | .gt => ordD fun i j => decide (j < i) | .ge => ordD fun i j => decide (j ≤ i) | .is => isD | .isnot => fun a b => (isD a b).map not
  | .inn => inD | .notin => fun a b => (inD a b).map not
/-- the reading of a comparison -/
def rCm (K : PySem.W.Frag) (f : D → D → Option Bool) : R2 := fun x y H Q => ∃ G d1 d2 b, GH G H ∧ VD K G H x d1 ∧ VD K G H y d2 ∧ f d1 d2 = some b ∧ Q (.bl b) H
theorem VD.isN {K : PySem.W.Frag} {G H : Hp} {v : V} {d : D} (h : VD K G H v d) : decide (v = .non) = isN d := by
  rcases h with h | ⟨a, vs, ds, e1, e, _⟩
  · cases h <;> rfl
  · subst e1; subst e; rfl
theorem ord_of {f : Int → Int → Bool} {d1 d2 : D} {b : Bool} (h : ordD f d1 d2 = some b) : ∃ i j, d1 = .int i ∧ d2 = .int j ∧ f i j = b := by
  unfold ordD at h
  split at h
  · cases h; exact ⟨_, _, rfl, rfl, rfl⟩
  · cases h
section
variable {X : Cx}
theorem ord_ok {o : CmpOp} {f : Int → Int → Bool} (r : OpR X (compareOp o) (rI0 fun i j => .bl (f i j))) : OpR X (compareOp o) (rCm X.K (ordD f)) := by
  intro pins s σ H x y v u Q I rx ry h
  obtain ⟨G, d1, d2, d, g, h1, h2, hb, k⟩ := h
  obtain ⟨i, j, rfl, rfl, rfl⟩ := ord_of hb
  rw [h1.int] at rx; rw [h2.int] at ry
  exact r pins s σ H _ _ v u Q I rx ry ⟨i, j, rfl, rfl, k⟩
theorem in_ok (hu : X.A.units + 65 < cLine) : OpR X (compareOp .In) (rCm X.K inD) := by
  intro pins s σ H x y v u Q I rx ry h
  obtain ⟨G, d1, d2, b, g, h1, h2, hb, k⟩ := h
  obtain ⟨as, r1⟩ := Dp.reads I d1 x v (h1.dp g) rx
  obtain ⟨bs, r2⟩ := Dp.reads I d2 y u (h2.dp g) ry
  unfold inD at hb
  split at hb
  · split at hb
    · rename_i hl
      cases hb
      exact SeqAt.in_list_reads r2 r1 (SeqAt.canLay_of_shaped hl.2) (SeqAt.canLay_of_shaped hl.1) (PyProof.Rows.room_in_shaped hl.1 hu) ⟨.bl _, H, I, rfl, k⟩
    · cases hb
  · split at hb
    · rename_i hl
      cases hb
      exact SeqAt.in_tuple_reads r2 r1 (SeqAt.canLay_of_shaped hl.2) (SeqAt.canLay_of_shaped hl.1) (PyProof.Rows.room_in_shaped hl.1 hu) ⟨.bl _, H, I, rfl, k⟩
    · cases hb
  · cases hb
theorem notin_ok (hu : X.A.units + 65 < cLine) : OpR X (compareOp .NotIn) (rCm X.K fun a b => (inD a b).map not) := by
  intro pins s σ H x y v u Q I rx ry h
  obtain ⟨G, d1, d2, b, g, h1, h2, hb, k⟩ := h
  obtain ⟨as, r1⟩ := Dp.reads I d1 x v (h1.dp g) rx
  obtain ⟨bs, r2⟩ := Dp.reads I d2 y u (h2.dp g) ry
  obtain ⟨b', hb', rfl⟩ := Option.map_eq_some_iff.mp hb
  unfold inD at hb'
  split at hb'
  · split at hb'
    · rename_i hl
      cases hb'
      exact SeqAt.notIn_list_reads r2 r1 (SeqAt.canLay_of_shaped hl.2) (SeqAt.canLay_of_shaped hl.1) (PyProof.Rows.room_in_shaped hl.1 hu) ⟨.bl _, H, I, rfl, k⟩
    · cases hb'
  · split at hb'
    · rename_i hl
      cases hb'
      exact SeqAt.notIn_tuple_reads r2 r1 (SeqAt.canLay_of_shaped hl.2) (SeqAt.canLay_of_shaped hl.1) (PyProof.Rows.room_in_shaped hl.1 hu) ⟨.bl _, H, I, rfl, k⟩
    · cases hb'
  · cases hb'
theorem cmp_ok (o : Cm) (hu : X.A.units + 65 < cLine) : OpR X (compareOp o.op) (rCm X.K (cmpD o)) := by
  cases o with
  | eq =>
    intro pins s σ H x y v u Q I rx ry h
    obtain ⟨G, d1, d2, b, g, h1, h2, hb, k⟩ := h
    change eqD d1 d2 = some b at hb
    unfold eqD at hb
    split at hb
    · rename_i hl
      cases hb
      exact op_eqD (by omega) pins s σ H x y v u Q I rx ry ⟨d1, d2, h1.dp g, h2.dp g, hl.1, hl.2, k⟩
    · cases hb
  | ne =>
    intro pins s σ H x y v u Q I rx ry h
    obtain ⟨G, d1, d2, b, g, h1, h2, hb, k⟩ := h
    obtain ⟨b', hb', rfl⟩ := Option.map_eq_some_iff.mp hb
    unfold eqD at hb'
    split at hb'
    · rename_i hl
      cases hb'
      exact op_neD (by omega) pins s σ H x y v u Q I rx ry ⟨d1, d2, h1.dp g, h2.dp g, hl.1, hl.2, k⟩
    · cases hb'
  | lt => exact ord_ok op_lt
  | le => exact ord_ok op_le
  | gt => exact ord_ok op_gt
  | ge => exact ord_ok op_ge
  | is =>
    intro pins s σ H x y v u Q I rx ry h
    obtain ⟨G, d1, d2, b, g, h1, h2, hb, k⟩ := h
    change isD d1 d2 = some b at hb
    unfold isD at hb
    split at hb
    · cases hb
      rw [← h1.isN] at k
      exact op_isN pins s σ H x y v u Q I rx ry ⟨h2.non, k⟩
    · cases hb
  | isnot =>
    intro pins s σ H x y v u Q I rx ry h
    obtain ⟨G, d1, d2, b, g, h1, h2, hb, k⟩ := h
    obtain ⟨b', hb', rfl⟩ := Option.map_eq_some_iff.mp hb
    unfold isD at hb'
    split at hb'
    · cases hb'
      rw [← h1.isN] at k
      exact op_notN pins s σ H x y v u Q I rx ry ⟨h2.non, k⟩
    · cases hb'
  | inn => exact in_ok hu
  | notin => exact notin_ok hu
end

/-! ### subscripts, slices -/
def atD : D → D → Option D
  | .list xs, .int i => atI xs i
  | .tuple xs, .int i => atI xs i
  | .str z, .int i => if z.length ≤ lim then (atI z.cps.toList i).map fun c => .str ⟨#[c]⟩ else none
  | _, _ => none
theorem DPs.at {K : PySem.W.Frag} {G : Hp} {vs : List V} {ds : List D} (h : DPs K G vs ds) {i : Int} {d : D} (e : atI ds i = some d) : ∃ v, atI vs i = some v ∧ DP K G v d := by
  unfold atI at e ⊢
  rw [h.length]
  obtain ⟨j, hj, e2⟩ := Option.bind_eq_some_iff.mp e
  obtain ⟨v, hv, r⟩ := h.get e2
  exact ⟨v, by rw [hj]; exact hv, r⟩
/-- o[i] by data: a slot's list (or the script) too -/
def rAt (K : PySem.W.Frag) : R2 := fun x y H Q => ∃ G d1 d2 d, GH G H ∧ VD K G H x d1 ∧ VD K G H y d2 ∧ atD d1 d2 = some d ∧ ∀ v, DP K G v d → Q v H
section
variable {X : Cx}
theorem at_ok : IxR X (rAt X.K) := by
  intro value slice pins s σ H x y v u Q I rx ry h hs
  obtain ⟨G, d1, d2, d, g, h1, h2, hb, k⟩ := h
  unfold atD at hb
  split at hb
  · rw [h2.int] at ry
    obtain ⟨a, vs, rfl, ha, hd⟩ := h1.lst g
    obtain ⟨w, hw, hdw⟩ := hd.at hb
    exact ix_list value slice pins s σ H _ _ v u Q I rx ry ⟨a, vs, _, w, rfl, rfl, SqL.of ha, hw, k w hdw⟩ hs
  · rw [h2.int] at ry
    obtain ⟨a, vs, rfl, ha, hd, _⟩ := h1.tup
    obtain ⟨w, hw, hdw⟩ := hd.at hb
    exact ix_tup value slice pins s σ H _ _ v u Q I rx ry ⟨a, vs, _, w, rfl, rfl, seqT_gh g ha, hw, k w hdw⟩ hs
  · split at hb
    · rename_i hl
      obtain ⟨c, hc, rfl⟩ := Option.map_eq_some_iff.mp hb
      rw [h1.str] at rx; rw [h2.int] at ry
      exact ix_str value slice pins s σ H _ _ v u Q I rx ry ⟨_, _, c, rfl, rfl, Nat.le_trans hl line_lim, hc, k _ (.str _)⟩ hs
    · cases hb
  · cases hb
end
def cutL {α : Type} (xs : List α) (lo hi : Option Int) : List α := (xs.drop (HT.sIx xs.length 0 lo)).take (HT.sIx xs.length xs.length hi - HT.sIx xs.length 0 lo)
def cutD : D → Option Int → Option Int → Option D
  | .list xs, lo, hi => some (.list (cutL xs lo hi))
  | .tuple xs, lo, hi => some (.tuple (cutL xs lo hi))
  | .str z, lo, hi => if z.length ≤ lim then some (.str (cutS z lo hi)) else none
  | _, _, _ => none
def rCut (K : PySem.W.Frag) : V → Option Int → Option Int → Hp → VK → Prop := fun x lo hi H Q => ∃ G d1 d, GH G H ∧ VD K G H x d1 ∧ cutD d1 lo hi = some d ∧ Ret K G H d Q
theorem DPs.cut {K : PySem.W.Frag} {G : Hp} {vs : List V} {ds : List D} (h : DPs K G vs ds) (lo hi : Option Int) : DPs K G (cutV vs lo hi) (cutL ds lo hi) := by
  unfold cutV cutL
  rw [h.length]
  exact (h.drop _).take _
section
variable {X : Cx}
theorem cut_ok : SlR X (rCut X.K) := by
  intro pins s σ H x v vl vu lo hi sl Q I rx hs pl pu h
  obtain ⟨G, d1, d, g, h1, hb, k⟩ := h
  unfold cutD at hb
  split at hb
  · cases hb
    obtain ⟨a, vs, rfl, ha, hd⟩ := h1.lst g
    exact sl_list pins s σ H _ v vl vu lo hi sl Q I rx hs pl pu ⟨a, vs, rfl, SqL.of ha, fun p hp => k.l g (hd.cut lo hi) hp⟩
  · cases hb
    obtain ⟨a, vs, rfl, ha, hd, hx⟩ := h1.tup
    refine slX_tup pins s σ H _ v vl vu lo hi sl Q I rx hs pl pu ⟨a, vs, rfl, seqT_gh g ha, fun z => ?_, fun p _ hp => k.t g (hd.cut lo hi) hp⟩
    rw [hd.length] at z
    have e : cutL ‹List D› lo hi = ‹List D› := by
      unfold cutL
      rw [z.1, z.2, List.drop_zero, Nat.sub_zero, List.take_length]
    rw [e] at k
    exact k.at g hx
  · split at hb
    · rename_i hl
      cases hb
      rw [h1.str] at rx
      exact sl_str pins s σ H _ v vl vu lo hi sl Q I rx hs pl pu ⟨_, rfl, Nat.le_trans hl line_lim, k.s g⟩
    · cases hb
  · cases hb
end

/-! ### built-in functions -/
/-- the arguments by data -/
def VDs (K : PySem.W.Frag) (G H : Hp) : List V → List D → Prop := Paired (VD K G H)
def intsOf : List D → Option (List Int)
  | [] => some []
  | .int i :: r => (intsOf r).map (i :: ·)
  | _ :: _ => none
def boolsOf : List D → Option (List Bool)
  | [] => some []
  | .bool i :: r => (boolsOf r).map (i :: ·)
  | _ :: _ => none
theorem intsOf_eq : ∀ {ds : List D} {ns : List Int}, intsOf ds = some ns → ds = ns.map PyData.int
  | [], _, h => by cases h; rfl
  | d :: ds, ns, h => by
    unfold intsOf at h
    split at h
    · rename_i e; cases e
    · rename_i i r e
      cases e
      obtain ⟨ms, hm, rfl⟩ := Option.map_eq_some_iff.mp h
      rw [intsOf_eq hm]
      rfl
    · cases h
theorem boolsOf_eq : ∀ {ds : List D} {ns : List Bool}, boolsOf ds = some ns → ds = ns.map PyData.bool
  | [], _, h => by cases h; rfl
  | d :: ds, ns, h => by
    unfold boolsOf at h
    split at h
    · rename_i e; cases e
    · rename_i i r e
      cases e
      obtain ⟨ms, hm, rfl⟩ := Option.map_eq_some_iff.mp h
      rw [boolsOf_eq hm]
      rfl
    · cases h
theorem intsOf_map : ∀ (ns : List Int), intsOf (ns.map PyData.int) = some ns
  | [] => rfl
  | n :: ns => by show (intsOf (ns.map PyData.int)).map (n :: ·) = _; rw [intsOf_map ns]; rfl
theorem boolsOf_map : ∀ (ns : List Bool), boolsOf (ns.map PyData.bool) = some ns
  | [] => rfl
  | n :: ns => by show (boolsOf (ns.map PyData.bool)).map (n :: ·) = _; rw [boolsOf_map ns]; rfl
def mxL : List Int → Int
  | [] => 0
  | [x] => x
  | x :: y :: r => max x (mxL (y :: r))
def mnL : List Int → Int
  | [] => 0
  | [x] => x
  | x :: y :: r => min x (mnL (y :: r))
theorem mxL_spec : ∀ {ns : List Int} {m : Int}, m ∈ ns → (∀ y, y ∈ ns → y ≤ m) → m = mxL ns
  | [], m, h, _ => by cases h
  | [x], m, h, _ => by simpa [mxL] using h
  | x :: y :: r, m, h, hm => by
    have hmem : mxL (y :: r) ∈ y :: r := by
      clear h hm
      induction r generalizing y with
      | nil => simp [mxL]
      | cons z r ih =>
        show max y (mxL (z :: r)) ∈ _
        rcases Int.le_total y (mxL (z :: r)) with q | q
        · rw [Int.max_eq_right q]; exact List.mem_cons_of_mem _ (ih z)
        · rw [Int.max_eq_left q]; exact List.mem_cons_self
    have hge : ∀ z, z ∈ y :: r → z ≤ mxL (y :: r) := by
      clear h hm hmem
      induction r generalizing y with
      | nil => intro z hz; simp at hz; subst hz; exact Int.le_refl _
      | cons w r ih =>
        intro z hz
        show z ≤ max y (mxL (w :: r))
        rcases List.mem_cons.mp hz with rfl | hz
        · exact Int.le_max_left _ _
        · exact Int.le_trans (ih w z hz) (Int.le_max_right _ _)
    show m = max x (mxL (y :: r))
    have a1 := hm x List.mem_cons_self
    have a2 := hm _ (List.mem_cons_of_mem x hmem)
    rcases List.mem_cons.mp h with rfl | h
    · omega
    · have := hge m h
      omega
theorem mnL_spec : ∀ {ns : List Int} {m : Int}, m ∈ ns → (∀ y, y ∈ ns → m ≤ y) → m = mnL ns
  | [], m, h, _ => by cases h
  | [x], m, h, _ => by simpa [mnL] using h
  | x :: y :: r, m, h, hm => by
    have hmem : mnL (y :: r) ∈ y :: r := by
      clear h hm
      induction r generalizing y with
      | nil => simp [mnL]
      | cons z r ih =>
        show min y (mnL (z :: r)) ∈ _
        rcases Int.le_total y (mnL (z :: r)) with q | q
        · rw [Int.min_eq_left q]; exact List.mem_cons_self
        · rw [Int.min_eq_right q]; exact List.mem_cons_of_mem _ (ih z)
    have hge : ∀ z, z ∈ y :: r → mnL (y :: r) ≤ z := by
      clear h hm hmem
      induction r generalizing y with
      | nil => intro z hz; simp at hz; subst hz; exact Int.le_refl _
      | cons w r ih =>
        intro z hz
        show min y (mnL (w :: r)) ≤ z
        rcases List.mem_cons.mp hz with rfl | hz
        · exact Int.min_le_left _ _
        · exact Int.le_trans (Int.min_le_right _ _) (ih w z hz)
    show m = min x (mnL (y :: r))
    have a1 := hm x List.mem_cons_self
    have a2 := hm _ (List.mem_cons_of_mem x hmem)
    rcases List.mem_cons.mp h with rfl | h
    · omega
    · have := hge m h
      omega
/-- those of one argument that is a sequence or an int; of two ints -/
inductive Fn where
  | abs | len | sum | max1 | min1 | max2 | min2 | int | all | any
def Fn.name : Fn → Str
  | .abs => "abs" | .len => "len" | .sum => "sum" | .max1 => "max" | .min1 => "min" | .max2 => "max" | .min2 => "min" | .int => "int" | .all => "all" | .any => "any"
def Fn.val : Fn → Value
  | .abs => .builtin "abs" | .len => .builtin "len" | .sum => .builtin "sum" | .max1 => .builtin "max" | .min1 => .builtin "min" | .max2 => .builtin "max" | .min2 => .builtin "min"
  | .int => .type "int" | .all => .builtin "all" | .any => .builtin "any"
def fnD : Fn → List D → Option D
  | .abs, [.int i] => some (.int (if i < 0 then -i else i))
  | .len, [.list xs] => some (.int xs.length)
  | .len, [.tuple xs] => some (.int xs.length)
  | .len, [.str z] => if z.length ≤ lim then some (.int z.length) else none
  | .sum, [.list xs] => (intsOf xs).map fun ns => .int ns.sum
  | .sum, [.tuple xs] => (intsOf xs).map fun ns => .int ns.sum
  | .max1, [.list xs] => if xs = [] then none else (intsOf xs).map fun ns => .int (mxL ns)
  | .min1, [.list xs] => if xs = [] then none else (intsOf xs).map fun ns => .int (mnL ns)
  | .max2, [.int i, .int j] => some (.int (if j > i then j else i))
  | .min2, [.int i, .int j] => some (.int (if j < i then j else i))
  | .int, [.int i] => some (.int i)
  | .int, [.bool b] => some (.int (if b then 1 else 0))
  | .all, [.list xs] => (boolsOf xs).map fun bs => .bool (bs.all id)
  | .any, [.list xs] => (boolsOf xs).map fun bs => .bool (bs.any id)
  | _, _ => none
def rFn (K : PySem.W.Frag) (f : List D → Option D) : List V → Hp → VK → Prop := fun vs H Q => ∃ G ds d, GH G H ∧ VDs K G H vs ds ∧ f ds = some d ∧ Ret K G H d Q
/-! #### sum of a tuple -/
theorem iter_intTup {prog : Program} {w : World} {A : Around} {E : Value → Shared → Prop} {s : Shared} {l : Addr} {items : Array Value} {Q : Value → Shared → Prop} (hl : s.heap.IsTuple l items)
    (h : ∀ s₂ : Shared, s₂ = { s with heap := s.heap.push { cls := .type "tuple_iterator", data := .fields #[.ref l, .int 0 0] } } →
      (s₂.heap.IsTupleIter s.heap.objs.size l 0 ∧ s₂.heap.IsTuple l items) → l < s.heap.objs.size → Q (.ref s.heap.objs.size) s₂) :
    wpAny (model prog w) A (pyIter (.ref l)) Q E s := by
  have hlt : l < s.heap.objs.size := by obtain ⟨_, e, _⟩ := hl; exact Heap.lt_size e
  exact wpAny_pyIter_tuple hl (h _ rfl ⟨⟨_, Heap.get?_push_size _ rfl, rfl, rfl⟩, hl.push _⟩ hlt)
theorem sum_tup {prog : Program} {w : World} {A : Around} {E : Value → Shared → Prop} {s : Shared} {l : Addr} {its : List Value} {ns : List Int} {Q : Value → Shared → Prop} (hh : A.handled = none) (hl : s.heap.IsTuple l its.toArray) (hi : PyProof.Rows.IntsAre its ns)
    (h : ∀ h' tk t', (∀ b o, s.heap.get? b = some o → h'.get? b = some o) → Q (.int ns.sum t') { s with heap := h', toks := tk }) : wpAny (model prog w) A (call (.builtin "sum") [.ref l]) Q E s := by
  obtain ⟨xs, e⟩ := hi.allInts.items
  have hn : numsOf (intItems xs).toList = ns := by rw [← e]; exact hi.numsOf
  rw [nums_intItems] at hn
  rw [e] at hl
  refine call_sum_walkG (iter_intTup hl fun s₂ e st hlt => ?_)
  subst e
  refine ⟨_, _, _, _, _, _, numAt xs, rfl, Walks.tuple (A := A.in1) hh _ l (Nat.ne_of_lt hlt) (intItems xs), st, fun b hb => ?_, (fun _ _ => intItems_at), fun h' tk t' hk => ?_⟩
  · show b < (s.heap.push _).objs.size
    rw [Heap.size_push]
    rcases List.mem_cons.mp hb with rfl | hb
    · exact Nat.lt_succ_self _
    · rcases List.mem_cons.mp hb with rfl | hb
      · exact Nat.lt_succ_of_lt hlt
      · cases hb
  · have := h h' tk t' fun b o e => hk b o (fun hm => by
      have e' : b = s.heap.objs.size := by simpa using hm
      exact Nat.lt_irrefl _ (e' ▸ Heap.lt_size e)) (Heap.get?_push_of_some _ e)
    rw [← hn, ← List.take_of_length_le (l := (xs.toList.map (·.1))) (i := xs.size) (by simp), ← preSum_eq] at this
    simpa [intItems] using this
section
variable {X : Cx}
theorem VDs.one {K : PySem.W.Frag} {G H : Hp} {vs : List V} {d : D} (h : VDs K G H vs [d]) : ∃ v, vs = [v] ∧ VD K G H v d := by
  cases h with
  | cons r t => cases t; exact ⟨_, rfl, r⟩
theorem VDs.two {K : PySem.W.Frag} {G H : Hp} {vs : List V} {d e : D} (h : VDs K G H vs [d, e]) : ∃ v w, vs = [v, w] ∧ VD K G H v d ∧ VD K G H w e := by
  cases h with
  | cons r t =>
    cases t with
    | cons r' t' => cases t'; exact ⟨_, _, rfl, r, r'⟩
theorem fn_ok (g : Fn) (hc : X.calm = true) : CallR X g.val (rFn X.K (fnD g)) := by
  intro pins s σ H vs us Q I r h
  obtain ⟨G, ds, d, gh, hv, hb, k⟩ := h
  unfold fnD at hb
  split at hb
  · cases hb
    obtain ⟨v, rfl, h1⟩ := hv.one
    rw [h1.int] at r
    exact call_abs pins s σ H _ us Q I r ⟨_, rfl, k.i gh⟩
  · cases hb
    obtain ⟨v, rfl, h1⟩ := hv.one
    obtain ⟨a, xs, rfl, ha, hd⟩ := h1.lst gh
    rw [← hd.length] at k
    exact call_len_seq pins s σ H _ us Q I r ⟨a, xs, rfl, .inl (SqL.of ha), k.i gh⟩
  · cases hb
    obtain ⟨v, rfl, h1⟩ := hv.one
    obtain ⟨a, xs, rfl, ha, hd, _⟩ := h1.tup
    rw [← hd.length] at k
    exact call_len_seq pins s σ H _ us Q I r ⟨a, xs, rfl, .inr (seqT_gh gh ha), k.i gh⟩
  · split at hb
    · rename_i hl
      cases hb
      obtain ⟨v, rfl, h1⟩ := hv.one
      rw [h1.str] at r
      exact call_len_str pins s σ H _ us Q I r ⟨_, rfl, Nat.le_trans hl line_lim, k.i gh⟩
    · cases hb
  · obtain ⟨ns, hn, rfl⟩ := Option.map_eq_some_iff.mp hb
    obtain ⟨v, rfl, h1⟩ := hv.one
    obtain ⟨a, xs, rfl, ha, hd⟩ := h1.lst gh
    rw [intsOf_eq hn] at hd
    rw [hd.ints] at ha
    exact cr_sum hc pins s σ H _ us Q I r ⟨a, ns, rfl, SqL.of ha, k.i gh⟩
  · obtain ⟨ns, hn, rfl⟩ := Option.map_eq_some_iff.mp hb
    obtain ⟨v, rfl, h1⟩ := hv.one
    obtain ⟨a, xs, rfl, ha, hd, _⟩ := h1.tup
    rw [intsOf_eq hn] at hd
    rw [hd.ints] at ha
    obtain ⟨its, rv, ht, _⟩ := I.tuple (seqT_gh gh ha)
    obtain ⟨u, rfl, ru⟩ := vals1 r
    cases ru
    exact sum_tup (I.ok.hd hc) ht (intsAre_of rv) fun h' tk t' hk => ⟨.int _, H, I.kept hk, ⟨_, rfl⟩, k.i gh⟩
  · split at hb
    · cases hb
    · rename_i hne
      obtain ⟨ns, hn, rfl⟩ := Option.map_eq_some_iff.mp hb
      obtain ⟨v, rfl, h1⟩ := hv.one
      obtain ⟨a, xs, rfl, ha, hd⟩ := h1.lst gh
      rw [intsOf_eq hn] at hd hne
      rw [hd.ints] at ha
      refine cr_max hc pins s σ H _ us Q I r ⟨a, ns, rfl, SqL.of ha, ?_, fun m h1 h2 => ?_⟩
      · exact List.length_pos_iff.mpr fun z => hne (by rw [z]; rfl)
      · rw [mxL_spec h1 h2]; exact k.i gh
  · split at hb
    · cases hb
    · rename_i hne
      obtain ⟨ns, hn, rfl⟩ := Option.map_eq_some_iff.mp hb
      obtain ⟨v, rfl, h1⟩ := hv.one
      obtain ⟨a, xs, rfl, ha, hd⟩ := h1.lst gh
      rw [intsOf_eq hn] at hd hne
      rw [hd.ints] at ha
      refine cr_min hc pins s σ H _ us Q I r ⟨a, ns, rfl, SqL.of ha, ?_, fun m h1 h2 => ?_⟩
      · exact List.length_pos_iff.mpr fun z => hne (by rw [z]; rfl)
      · rw [mnL_spec h1 h2]; exact k.i gh
  · cases hb
    obtain ⟨v, w, rfl, h1, h2⟩ := hv.two
    rw [h1.int, h2.int] at r
    exact call_max2 hc pins s σ H _ us Q I r ⟨_, _, rfl, k.i gh⟩
  · cases hb
    obtain ⟨v, w, rfl, h1, h2⟩ := hv.two
    rw [h1.int, h2.int] at r
    exact call_min2 hc pins s σ H _ us Q I r ⟨_, _, rfl, k.i gh⟩
  · cases hb
    obtain ⟨v, rfl, h1⟩ := hv.one
    rw [h1.int] at r
    exact call_int1 pins s σ H _ us Q I r (.inl ⟨_, rfl, k.i gh⟩)
  · cases hb
    obtain ⟨v, rfl, h1⟩ := hv.one
    rw [h1.bl] at r
    exact call_int1 pins s σ H _ us Q I r (.inr ⟨_, rfl, k.i gh⟩)
  · obtain ⟨ns, hn, rfl⟩ := Option.map_eq_some_iff.mp hb
    obtain ⟨v, rfl, h1⟩ := hv.one
    obtain ⟨a, xs, rfl, ha, hd⟩ := h1.lst gh
    rw [boolsOf_eq hn] at hd
    rw [hd.bools] at ha
    exact cr_all hc pins s σ H _ us Q I r ⟨a, ns, rfl, SqL.of ha, k.b gh⟩
  · obtain ⟨ns, hn, rfl⟩ := Option.map_eq_some_iff.mp hb
    obtain ⟨v, rfl, h1⟩ := hv.one
    obtain ⟨a, xs, rfl, ha, hd⟩ := h1.lst gh
    rw [boolsOf_eq hn] at hd
    rw [hd.bools] at ha
    exact cr_any hc pins s σ H _ us Q I r ⟨a, ns, rfl, SqL.of ha, k.b gh⟩
  · cases hb

/-! ### isinstance -/
inductive Ty where
  | int | bool | str | tuple | list
  deriving DecidableEq
def Ty.name : Ty → String
  | .int => "int" | .bool => "bool" | .str => "str" | .tuple => "tuple" | .list => "list"
def tyOf : D → Option String
  | .none => some "NoneType" | .bool _ => some "bool" | .int _ => some "int" | .str _ => some "str" | .list _ => some "list" | .tuple _ => some "tuple" | .dict _ => none
def isiD (t : Ty) : D → Option Bool
  | .none => some false
  | .bool _ => some (t == .bool || t == .int)
  | .int _ => some (t == .int)
  | .str _ => some (t == .str)
  | .list _ => some (t == .list)
  | .tuple _ => some (t == .tuple)
  | .dict _ => none
theorem VD.ty {K : PySem.W.Frag} {G H : Hp} {v : V} {d : D} (g : GH G H) (h : VD K G H v d) : ∃ n, tyOf d = some n ∧ TyX K H v (.type n) := by
  rcases h with h | ⟨a, vs, ds, e1, e, h1, _⟩
  · cases h with
    | non => exact ⟨_, rfl, .base .non⟩
    | bl b => exact ⟨_, rfl, .base (.bl b)⟩
    | int i => exact ⟨_, rfl, .base (.int i)⟩
    | str x => exact ⟨_, rfl, .base (.str x)⟩
    | lst h1 _ => exact ⟨_, rfl, .base (.lst (g.lst h1))⟩
    | tup h1 _ =>
      refine ⟨_, rfl, ?_⟩
      rcases seqT_gh g h1.sq with (z | ⟨o, z⟩) | ⟨o, its, n, z, c, _⟩
      · exact .base (.tup z)
      · exact .fTuple z
      · exact .kTuple z c
  · subst e1; subst e
    exact ⟨_, rfl, .base (.lst h1)⟩
theorem kit_all (t : Ty) : ∀ (d : D) (n : String) (b : Bool), tyOf d = some n → isiD t d = some b → kitB n t.name = some b := by
  intro d n b h1 h2
  cases t <;> cases d <;> cases h1 <;> cases h2 <;> decide +kernel
def rIs (K : PySem.W.Frag) (t : Ty) : List V → Hp → VK → Prop := fun vs H Q => ∃ G x d b, vs = [x, .ty t.name] ∧ GH G H ∧ VD K G H x d ∧ isiD t d = some b ∧ Q (.bl b) H
theorem isi_ok (t : Ty) : CallR X (.builtin "isinstance") (rIs X.K t) := by
  intro pins s σ H vs us Q I r h
  obtain ⟨G, x, d, b, rfl, g, hx, hb, k⟩ := h
  obtain ⟨n, hn, ty⟩ := hx.ty g
  exact call_isi pins s σ H _ us Q I r ⟨x, _, _, _, b, rfl, .ty _, ty, kit_ty (kit_all t d n b hn hb), k⟩
end
end Pf

namespace Pf
open PySem L2

/-! ### expressions told by data -/
abbrev M (α : Type) := En → Option (α × En)
inductive Op where
  | slot (i : Nat)
  | val (v : SV)
def OR (K : PySem.W.Frag) (G : Hp) (σ : L2.St) (v : V) : Op → Prop
  | .slot i => σ[i]? = some (some v)
  | .val sv => VR K G v sv
def rsS : Option (Option SV) → Option D
  | some (some (.dat d)) => some d
  | some (some (.olst ds)) => some (.list ds)
  | _ => none
def rsV : SV → Option D
  | .dat d => some d
  | _ => none
def rs : Op → En → Option D
  | .slot i, en => rsS en[i]?
  | .val v, _ => rsV v
theorem OR.ex {K : PySem.W.Frag} {G G' : Hp} {σ : L2.St} {v : V} (g : Ex G G') : ∀ {o : Op}, OR K G σ v o → OR K G' σ v o
  | .slot _, h => h
  | .val _, h => VR.ex g h
theorem rsS_ok {d : D} : ∀ {o : Option (Option SV)}, rsS o = some d → o = some (some (.dat d)) ∨ ∃ ds, o = some (some (.olst ds)) ∧ d = .list ds
  | some (some (.dat _)), h => by cases h; exact .inl rfl
  | some (some (.olst ds)), h => by cases h; exact .inr ⟨ds, rfl, rfl⟩
  | some (some (.fdic _)), h => by cases h
  | some (some (.kdic _)), h => by cases h
  | some (some (.rlst _)), h => by cases h
  | some (some (.odic _ _)), h => by cases h
  | some none, h => by cases h
  | none, h => by cases h
theorem rsV_ok {d : D} : ∀ {o : SV}, rsV o = some d → o = .dat d
  | .dat _, h => by cases h; rfl
  | .fdic _, h => by cases h
  | .kdic _, h => by cases h
  | .rlst _, h => by cases h
  | .odic _ _, h => by cases h
  | .olst _, h => by cases h
theorem rs_ok {K : PySem.W.Frag} {G H : Hp} {σ : L2.St} {en : En} {v : V} {d : D} (R : Rel K G H σ en) : ∀ {o : Op}, OR K G σ v o → rs o en = some d → VD K G H v d
  | .slot i, h, e => by
    rcases rsS_ok (show rsS en[i]? = some d from e) with q | ⟨ds, q, rfl⟩
    · obtain ⟨w, hw, s⟩ := R.slot i _ q
      rw [show σ[i]? = some (some v) from h] at hw
      cases hw
      exact .inl s
    · obtain ⟨w, hw, a, vs, e1, e2, e3, e4⟩ := R.slot i _ q
      rw [show σ[i]? = some (some v) from h] at hw
      cases hw
      exact .inr ⟨a, vs, ds, e1, rfl, e2, e4⟩
  | .val sv, h, e => by
    have q := rsV_ok (show rsV sv = some d from e)
    subst q
    exact .inl h

/-- the readings -/
def tE (K : PySem.W.Frag) (f : M SV) : TE := fun σ H Q => ∃ G en sv en', Rel K G H σ en ∧ f en = some (sv, en') ∧ ∀ v G' H', Stp K σ G H en σ G' H' en' → VR K G' v sv → Q v H'
def tO (K : PySem.W.Frag) (f : M Op) : TE := fun σ H Q => ∃ G en o en', Rel K G H σ en ∧ f en = some (o, en') ∧ ∀ v G' H', Stp K σ G H en σ G' H' en' → OR K G' σ v o → Q v H'
def tT (K : PySem.W.Frag) (f : M Bool) : TT := fun σ H Q => ∃ G en b en', Rel K G H σ en ∧ f en = some (b, en') ∧ ∀ G' H', Stp K σ G H en σ G' H' en' → Q b H'
def tOs (K : PySem.W.Frag) (f : M (List Op)) : TA := fun σ H Q => ∃ G en os en', Rel K G H σ en ∧ f en = some (os, en') ∧ ∀ vs G' H', Stp K σ G H en σ G' H' en' → Paired (OR K G' σ) vs os → Q vs H'
/-- a new list that no one else has -/
def tL (K : PySem.W.Frag) (f : M (List D)) : TE := fun σ H Q => ∃ G en ds en', Rel K G H σ en ∧ f en = some (ds, en') ∧
  ∀ p vs G' H', Stp K σ G H en σ G' H' en' → H p = none → H' p = some (.lst vs) → G' p = none → DPs K G' vs ds → Q (.ref p) H'

theorem pe_weak {X : Cx} {e : Expr} {t t' : TE} (h : PE X e t) (w : ∀ σ H Q, t' σ H Q → t σ H Q) : PE X e t' := ⟨fun pins s σ H Q I q => h.run pins s σ H Q I (w σ H Q q)⟩
theorem pt_weak {X : Cx} {e : Expr} {t t' : TT} (h : PT X e t) (w : ∀ σ H Q, t' σ H Q → t σ H Q) : PT X e t' := ⟨fun pins s σ H Q I q => h.run pins s σ H Q I (w σ H Q q)⟩
theorem pw_weak {X : Cx} {e : Expr} {t t' : TT} (h : PW X e t) (w : ∀ σ H Q, t' σ H Q → t σ H Q) : PW X e t' := ⟨fun wh pins s σ H Q I q => h.run wh pins s σ H Q I (w σ H Q q)⟩
theorem pa_weak {X : Cx} {es : List Expr} {t t' : TA} (h : PA X es t) (w : ∀ σ H Q, t' σ H Q → t σ H Q) : PA X es t' := ⟨fun pos pins s σ H Q I q => h.run pos pins s σ H Q I (w σ H Q q)⟩

/-! #### operands -/
def fSlot (i : Nat) : M Op := fun en => some (.slot i, en)
def fVal (f : M SV) : M Op := fun en => (f en).bind fun p => some (.val p.1, p.2)
def isSet : Option (Option SV) → Bool
  | some (some _) => true
  | _ => false
def fSlotC (i : Nat) : M Op := fun en => if isSet en[i]? = true then some (.slot i, en) else none
section
variable {X : Cx} {K : PySem.W.Frag}
theorem isSet_ok {o : Option (Option SV)} (h : isSet o = true) : ∃ sv, o = some (some sv) := by
  cases o with
  | none => cases h
  | some p =>
    cases p with
    | none => cases h
    | some v => exact ⟨v, rfl⟩
theorem s_slot {e : Expr} {i : Nat} (h : PE X e (tVar i)) : PE X e (tO X.K (fSlotC i)) := pe_weak h fun σ H Q ⟨G, en, o, en', R, hf, k⟩ => by
  unfold fSlotC at hf
  split at hf
  · rename_i hs
    cases hf
    obtain ⟨sv, hsv⟩ := isSet_ok hs
    obtain ⟨v, hv, _⟩ := R.slot i sv hsv
    exact ⟨v, hv, k v G H (Stp.refl R) hv⟩
  · cases hf
theorem s_val {e : Expr} {f : M SV} (h : PE X e (tE X.K f)) : PE X e (tO X.K (fVal f)) := pe_weak h fun σ H Q ⟨G, en, o, en', R, hf, k⟩ => by
  obtain ⟨⟨sv, en1⟩, h1, h2⟩ := Option.bind_eq_some_iff.mp hf
  cases h2
  exact ⟨G, en, sv, en1, R, h1, fun v G' H' st r => k v G' H' st r⟩

/-! #### constants, names -/
def fLit (d : D) : M SV := fun en => some (.dat d, en)
theorem s_lit {e : Expr} {v : V} {d : D} (h : PE X e (tC v)) (hd : ∀ G, DP X.K G v d) : PE X e (tE X.K (fLit d)) := pe_weak h fun σ H Q ⟨G, en, sv, en', R, hf, k⟩ => by
  cases hf
  exact k v G H (Stp.refl R) (hd G)
/-- a name as a value: its own list, its own dict are given out for good -/
def varS : SV → Option (SV × SV)
  | .dat d => some (.dat d, .dat d)
  | .fdic kvs => some (.fdic kvs, .fdic kvs)
  | .kdic kvs => some (.kdic kvs, .kdic kvs)
  | .rlst ds => some (.rlst ds, .rlst ds)
  | .olst ds => some (.dat (.list ds), .dat (.list ds))
  | .odic false kvs => some (.fdic kvs, .fdic kvs)
  | .odic true _ => none
def slotAt (en : En) (i : Nat) : Option SV := (en[i]?).bind id
def fVar (i : Nat) : M SV := fun en => (slotAt en i).bind fun sv => (varS sv).bind fun p => some (p.1, en.set i (some p.2))
theorem slotAt_eq {en : En} {i : Nat} {sv : SV} (h : slotAt en i = some sv) : en[i]? = some (some sv) := by
  unfold slotAt at h
  obtain ⟨o, h1, h2⟩ := Option.bind_eq_some_iff.mp h
  rw [h1]
  exact congrArg some h2
theorem set_get {α : Type} {l : List α} {i j : Nat} {a b : α} (h : (l.set i a)[j]? = some b) : (j = i ∧ b = a) ∨ (j ≠ i ∧ l[j]? = some b) := by
  by_cases e : i = j
  · subst e
    by_cases hl : i < l.length
    · rw [List.getElem?_set_self hl] at h
      cases h
      exact .inl ⟨rfl, rfl⟩
    · rw [List.getElem?_eq_none (by simpa using hl)] at h
      cases h
  · rw [List.getElem?_set_ne e] at h
    exact .inr ⟨fun z => e z.symm, h⟩
/-- a slot's thing is frozen -/
theorem Rel.frozen {G H : Hp} {σ : L2.St} {en : En} {i : Nat} {sv sv' : SV} {a : Addr} {o : HO} (R : Rel K G H σ en) (he : en[i]? = some (some sv)) (hσ : σ[i]? = some (some (V.ref a))) (ho : H a = some o) (hg : G a = none) (hw : ownB sv = true)
    (hn : ownB sv' = false) (hv : VR K (upd G a o) (.ref a) sv') : Rel K (upd G a o) H σ (en.set i (some sv')) where
  gh := R.gh.freeze ho
  len := by rw [List.length_set]; exact R.len
  slot := fun j s e => by
    rcases set_get e with ⟨rfl, q⟩ | ⟨ne, e⟩
    · cases q
      exact ⟨_, hσ, VR.sr hv⟩
    · obtain ⟨v, hv', hs⟩ := R.slot j s e
      refine ⟨v, hv', hs.carry (Ex.new hg) fun b u hb1 hb2 hb3 hb4 => ⟨hb3, ?_⟩⟩
      rw [upd_ne ?_]
      · exact hb4
      · rintro rfl
        subst hb2
        exact ne (R.sep j i s sv _ e he hb1 hw hv' hσ)
  sep := fun j l s s' v e1 e2 w1 w2 => by
    rcases set_get e1 with ⟨rfl, q⟩ | ⟨_, e1⟩
    · cases q
      rw [hn] at w1; cases w1
    · rcases set_get e2 with ⟨rfl, q⟩ | ⟨_, e2⟩
      · cases q
        rw [hn] at w2; cases w2
      · exact R.sep j l s s' v e1 e2 w1 w2
theorem set_same {en : En} {i : Nat} {sv : SV} (h : en[i]? = some (some sv)) : en.set i (some sv) = en := by
  apply List.ext_getElem?
  intro j
  by_cases e : i = j
  · subst e
    rw [List.getElem?_set_self (List.getElem?_eq_some_iff.mp h).1, h]
  · rw [List.getElem?_set_ne e]
theorem Stp.frozen {G H : Hp} {σ : L2.St} {en : En} {i : Nat} {sv sv' : SV} {a : Addr} {o : HO} (R : Rel K G H σ en) (he : en[i]? = some (some sv)) (hσ : σ[i]? = some (some (V.ref a))) (ho : H a = some o) (hg : G a = none) (hw : ownB sv = true)
    (hp : ∀ kvs, sv ≠ .odic true kvs) (hn : ownB sv' = false) (hv : VR K (upd G a o) (.ref a) sv') : Stp K σ G H en σ (upd G a o) H (en.set i (some sv')) where
  rel := R.frozen he hσ ho hg hw hn hv
  ex := Ex.new hg
  frame := fun _ _ h _ => h
  live := fun _ h => h
  fresh := fun b q => by
    by_cases e : b = a
    · subst e; exact .inr (.inr ⟨i, sv, he, hw, hσ⟩)
    · rw [upd_ne e] at q; exact .inl q
  sub := fun b ⟨j, s, e, w, f⟩ => by
    rcases set_get e with ⟨_, q⟩ | ⟨_, e⟩
    · cases q; rw [hn] at w; cases w
    · exact .inl ⟨j, s, e, w, f⟩
  prot := fun j kvs e => by
    refine ⟨rfl, kvs, ?_⟩
    by_cases q : i = j
    · subst q
      rw [he] at e
      cases e
      exact absurd rfl (hp kvs)
    · rw [List.getElem?_set_ne q]; exact e
theorem s_var {e : Expr} {i : Nat} (h : PE X e (tVar i)) : PE X e (tE X.K (fVar i)) := pe_weak h fun σ H Q ⟨G, en, sv, en', R, hf, k⟩ => by
  obtain ⟨s0, h1, h2⟩ := Option.bind_eq_some_iff.mp hf
  obtain ⟨p, h3, h4⟩ := Option.bind_eq_some_iff.mp h2
  cases h4
  have he := slotAt_eq h1
  obtain ⟨v, hv, hs⟩ := R.slot i s0 he
  refine ⟨v, hv, ?_⟩
  cases s0 with
  | dat d => cases h3; rw [set_same he] at k; exact k v G H (Stp.refl R) hs
  | fdic d => cases h3; rw [set_same he] at k; exact k v G H (Stp.refl R) hs
  | kdic d => cases h3; rw [set_same he] at k; exact k v G H (Stp.refl R) hs
  | rlst d => cases h3; rw [set_same he] at k; exact k v G H (Stp.refl R) hs
  | olst ds =>
    cases h3
    obtain ⟨a, vs, rfl, e2, e3, e4⟩ := hs
    have hvr : VR X.K (upd G a (.lst vs)) (.ref a) (.dat (.list ds)) := .lst upd_same (dps_ex (Ex.new e3) _ _ e4)
    exact k _ _ H (Stp.frozen R he hv e2 e3 rfl (fun _ z => by cases z) rfl hvr) hvr
  | odic p kvs =>
    cases p with
    | true => cases h3
    | false =>
      cases h3
      obtain ⟨a, vs, rfl, e2, e3, e4⟩ := hs
      have hvr : VR X.K (upd G a (.dK vs)) (.ref a) (.fdic kvs) := ⟨a, vs, rfl, upd_same, e4.ex (Ex.new e3)⟩
      exact k _ _ H (Stp.frozen R he hv e2 e3 rfl (fun _ z => by cases z) rfl hvr) hvr

/-! #### operators -/
def fBin (o : Bin) (fa fb : M Op) : M SV := fun en => (fa en).bind fun p => (fb p.2).bind fun q => (rs p.1 q.2).bind fun d1 => (rs q.1 q.2).bind fun d2 => (binD o d1 d2).bind fun d => some (.dat d, q.2)
theorem two {G H : Hp} {σ : L2.St} {en en1 en2 : En} {o1 o2 : Op} {d1 d2 : D} {v1 v2 : V} {G1 H1 G2 H2 : Hp} (s1 : Stp K σ G H en σ G1 H1 en1) (s2 : Stp K σ G1 H1 en1 σ G2 H2 en2) (q1 : OR K G1 σ v1 o1) (q2 : OR K G2 σ v2 o2)
    (e1 : rs o1 en2 = some d1) (e2 : rs o2 en2 = some d2) : VD K G2 H2 v1 d1 ∧ VD K G2 H2 v2 d2 := ⟨rs_ok s2.rel (q1.ex s2.ex) e1, rs_ok s2.rel q2 e2⟩
variable {a b : Expr} {fa fb : M Op} {pos : Pos}
theorem s_bin (o : Bin) (ha : PE X a (tO X.K fa)) (hb : PE X b (tO X.K fb)) : PE X (.BinOp a o.op b pos) (tE X.K (fBin o fa fb)) := pe_weak (pe_op (bin_ok o) ha hb) fun σ H Q ⟨G, en, sv, en', R, hf, k⟩ => by
  obtain ⟨⟨o1, en1⟩, h1, hf⟩ := Option.bind_eq_some_iff.mp hf
  obtain ⟨⟨o2, en2⟩, h2, hf⟩ := Option.bind_eq_some_iff.mp hf
  obtain ⟨d1, e1, hf⟩ := Option.bind_eq_some_iff.mp hf
  obtain ⟨d2, e2, hf⟩ := Option.bind_eq_some_iff.mp hf
  obtain ⟨d, e3, hf⟩ := Option.bind_eq_some_iff.mp hf
  cases hf
  refine ⟨G, en, o1, en1, R, h1, fun v1 G1 H1 s1 q1 => ⟨G1, en1, o2, en2, s1.rel, h2, fun v2 G2 H2 s2 q2 => ?_⟩⟩
  obtain ⟨w1, w2⟩ := two s1 s2 q1 q2 e1 e2
  exact ⟨G2, d1, d2, d, s2.rel.gh, w1, w2, e3, fun v G' H' ps hv => k v G' H' ((s1.trans s2).trans (ps.stp s2.rel)) hv⟩
def negD : D → Option D
  | .int i => some (.int (-i))
  | _ => none
def fNeg (fa : M Op) : M SV := fun en => (fa en).bind fun p => (rs p.1 p.2).bind fun d1 => (negD d1).bind fun d => some (.dat d, p.2)
theorem s_neg (ha : PE X a (tO X.K fa)) : PE X (.UnaryOp .USub a pos) (tE X.K (fNeg fa)) := pe_weak (pe_un un_neg ha) fun σ H Q ⟨G, en, sv, en', R, hf, k⟩ => by
  obtain ⟨⟨o1, en1⟩, h1, hf⟩ := Option.bind_eq_some_iff.mp hf
  obtain ⟨d1, e1, hf⟩ := Option.bind_eq_some_iff.mp hf
  obtain ⟨d, e3, hf⟩ := Option.bind_eq_some_iff.mp hf
  cases hf
  refine ⟨G, en, o1, en1, R, h1, fun v1 G1 H1 s1 q1 => ?_⟩
  unfold negD at e3
  split at e3
  · cases e3
    have w1 := (rs_ok s1.rel q1 e1).int
    exact ⟨_, w1, k _ G1 H1 s1 (.int _)⟩
  · cases e3
def fCmp (o : Cm) (fa fb : M Op) : M Bool := fun en => (fa en).bind fun p => (fb p.2).bind fun q => (rs p.1 q.2).bind fun d1 => (rs q.1 q.2).bind fun d2 => (cmpD o d1 d2).bind fun d => some (d, q.2)
theorem cmp_core (o : Cm) {σ : L2.St} {H : Hp} {G : Hp} {en en' : En} {c : Bool} {Q : VK} (R : Rel K G H σ en) (hf : fCmp o fa fb en = some (c, en')) (k : ∀ G' H', Stp K σ G H en σ G' H' en' → Q (.bl c) H') :
    tOp (rCm K (cmpD o)) (tO K fa) (tO K fb) σ H Q := by
  obtain ⟨⟨o1, en1⟩, h1, hf⟩ := Option.bind_eq_some_iff.mp hf
  obtain ⟨⟨o2, en2⟩, h2, hf⟩ := Option.bind_eq_some_iff.mp hf
  obtain ⟨d1, e1, hf⟩ := Option.bind_eq_some_iff.mp hf
  obtain ⟨d2, e2, hf⟩ := Option.bind_eq_some_iff.mp hf
  obtain ⟨d, e3, hf⟩ := Option.bind_eq_some_iff.mp hf
  cases hf
  refine ⟨G, en, o1, en1, R, h1, fun v1 G1 H1 s1 q1 => ⟨G1, en1, o2, en2, s1.rel, h2, fun v2 G2 H2 s2 q2 => ?_⟩⟩
  obtain ⟨w1, w2⟩ := two s1 s2 q1 q2 e1 e2
  exact ⟨G2, d1, d2, c, s2.rel.gh, w1, w2, e3, k G2 H2 (s1.trans s2)⟩
/-- a test's answer as a value -/
def fTest (f : M Bool) : M SV := fun en => (f en).bind fun p => some (.dat (.bool p.1), p.2)
theorem s_cmp (o : Cm) (hu : X.A.units + 65 < cLine) (ha : PE X a (tO X.K fa)) (hb : PE X b (tO X.K fb)) (hm : behindInMarks o.op b = false) : PE X (.Compare a [o.op] [b] pos) (tE X.K (fTest (fCmp o fa fb))) :=
  pe_weak (pe_cmpR (cmp_ok o hu) ha hb hm) fun σ H Q ⟨G, en, sv, en', R, hf, k⟩ => by
    obtain ⟨⟨c, en1⟩, h1, hf⟩ := Option.bind_eq_some_iff.mp hf
    cases hf
    exact cmp_core o R h1 fun G' H' st => k _ G' H' st (.bl c)
theorem s_cmpT (o : Cm) (hu : X.A.units + 65 < cLine) (ha : PE X a (tO X.K fa)) (hb : PE X b (tO X.K fb)) (hm : behindInMarks o.op b = false) : PT X (.Compare a [o.op] [b] pos) (tT X.K (fCmp o fa fb)) :=
  pt_weak (pt_cmpR (cmp_ok o hu) ha hb hm) fun σ H Q ⟨G, en, c, en', R, hf, k⟩ => cmp_core o R hf fun G' H' st => ⟨c, rfl, k G' H' st⟩
/-- a < b < c -/
def fChain (o o' : Cm) (fa fb fc : M Op) : M Bool := fun en => (fa en).bind fun p => (fb p.2).bind fun q => (rs p.1 q.2).bind fun d1 => (rs q.1 q.2).bind fun d2 => (cmpD o d1 d2).bind fun d =>
  if d = true then (fc q.2).bind fun r => (rs q.1 r.2).bind fun d2' => (rs r.1 r.2).bind fun d3 => (cmpD o' d2' d3).bind fun d' => some (d', r.2) else some (false, q.2)
end
end Pf

namespace Pf
open PySem L2
section
variable {X : Cx} {K : PySem.W.Frag} {a b c : Expr} {fa fb fc : M Op} {pos : Pos}
theorem chain_core (o o' : Cm) {σ : L2.St} {H : Hp} {G : Hp} {en en' : En} {c : Bool} {Q : VK} (R : Rel K G H σ en) (hf : fChain o o' fa fb fc en = some (c, en')) (k : ∀ G' H', Stp K σ G H en σ G' H' en' → Q (.bl c) H') :
    tChain (rCm K (cmpD o)) (rCm K (cmpD o')) (tO K fa) (tO K fb) (tO K fc) σ H Q := by
  obtain ⟨⟨o1, en1⟩, h1, hf⟩ := Option.bind_eq_some_iff.mp hf
  obtain ⟨⟨o2, en2⟩, h2, hf⟩ := Option.bind_eq_some_iff.mp hf
  obtain ⟨d1, e1, hf⟩ := Option.bind_eq_some_iff.mp hf
  obtain ⟨d2, e2, hf⟩ := Option.bind_eq_some_iff.mp hf
  obtain ⟨d, e3, hf⟩ := Option.bind_eq_some_iff.mp hf
  refine ⟨G, en, o1, en1, R, h1, fun v1 G1 H1 s1 q1 => ⟨G1, en1, o2, en2, s1.rel, h2, fun v2 G2 H2 s2 q2 => ?_⟩⟩
  obtain ⟨w1, w2⟩ := two s1 s2 q1 q2 e1 e2
  refine ⟨G2, d1, d2, d, s2.rel.gh, w1, w2, e3, d, rfl, ?_⟩
  cases d with
  | false =>
    rw [if_neg Bool.false_ne_true] at hf ⊢
    cases hf
    exact k G2 H2 (s1.trans s2)
  | true =>
    rw [if_pos rfl] at hf ⊢
    obtain ⟨⟨o3, en3⟩, h3, hf⟩ := Option.bind_eq_some_iff.mp hf
    obtain ⟨d2', e2', hf⟩ := Option.bind_eq_some_iff.mp hf
    obtain ⟨d3, e4, hf⟩ := Option.bind_eq_some_iff.mp hf
    obtain ⟨d', e5, hf⟩ := Option.bind_eq_some_iff.mp hf
    cases hf
    refine ⟨G2, en2, o3, en3, s2.rel, h3, fun v3 G3 H3 s3 q3 => ?_⟩
    exact ⟨G3, d2', d3, c, s3.rel.gh, rs_ok s3.rel (q2.ex s3.ex) e2', rs_ok s3.rel q3 e4, e5, k G3 H3 ((s1.trans s2).trans s3)⟩
theorem s_chain (o o' : Cm) (hu : X.A.units + 65 < cLine) (ha : PE X a (tO X.K fa)) (hb : PE X b (tO X.K fb)) (hc : PE X c (tO X.K fc)) (hm : lastMarks [o.op, o'.op] [b, c] = false) :
    PE X (.Compare a [o.op, o'.op] [b, c] pos) (tE X.K (fTest (fChain o o' fa fb fc))) :=
  pe_weak (pe_chain (cmp_ok o hu) (cmp_ok o' hu) ha hb hc hm) fun σ H Q ⟨G, en, sv, en', R, hf, k⟩ => by
    obtain ⟨⟨c, en1⟩, h1, hf⟩ := Option.bind_eq_some_iff.mp hf
    cases hf
    exact chain_core o o' R h1 fun G' H' st => k _ G' H' st (.bl c)
theorem s_chainT (o o' : Cm) (hu : X.A.units + 65 < cLine) (ha : PE X a (tO X.K fa)) (hb : PE X b (tO X.K fb)) (hc : PE X c (tO X.K fc)) (hm : lastMarks [o.op, o'.op] [b, c] = false) :
    PT X (.Compare a [o.op, o'.op] [b, c] pos) (tT X.K (fChain o o' fa fb fc)) :=
  pt_weak (pt_chain (cmp_ok o hu) (cmp_ok o' hu) ha hb hc hm) fun σ H Q ⟨G, en, c, en', R, hf, k⟩ => chain_core o o' R hf fun G' H' st => ⟨c, rfl, k G' H' st⟩

/-! #### and, or, not -/
def fAnd (f g : M Bool) : M Bool := fun en => (f en).bind fun p => if p.1 = true then g p.2 else some (false, p.2)
def fOr (f g : M Bool) : M Bool := fun en => (f en).bind fun p => if p.1 = true then some (true, p.2) else g p.2
def fNot (f : M Bool) : M Bool := fun en => (f en).bind fun p => some (!p.1, p.2)
variable {f g : M Bool} {rest : List Expr}
theorem s_andT (ha : PT X a (tT X.K f)) (hb : PW X (.BoolOp .And (b :: rest) pos) (tT X.K g)) : PW X (.BoolOp .And (a :: b :: rest) pos) (tT X.K (fAnd f g)) :=
  pw_weak (pw_and ha hb) fun σ H Q ⟨G, en, c, en', R, hf, k⟩ => by
    obtain ⟨⟨d, en1⟩, h1, hf⟩ := Option.bind_eq_some_iff.mp hf
    refine ⟨G, en, d, en1, R, h1, fun G1 H1 s1 => ?_⟩
    cases d with
    | true => exact iteT ⟨G1, en1, c, en', s1.rel, hf, fun G' H' st => k G' H' (s1.trans st)⟩
    | false => cases hf; exact iteF (k G1 H1 s1)
theorem s_orT (ha : PT X a (tT X.K f)) (hb : PW X (.BoolOp .Or (b :: rest) pos) (tT X.K g)) : PW X (.BoolOp .Or (a :: b :: rest) pos) (tT X.K (fOr f g)) :=
  pw_weak (pw_or ha hb) fun σ H Q ⟨G, en, c, en', R, hf, k⟩ => by
    obtain ⟨⟨d, en1⟩, h1, hf⟩ := Option.bind_eq_some_iff.mp hf
    refine ⟨G, en, d, en1, R, h1, fun G1 H1 s1 => ?_⟩
    cases d with
    | false => exact iteF ⟨G1, en1, c, en', s1.rel, hf, fun G' H' st => k G' H' (s1.trans st)⟩
    | true => cases hf; exact iteT (k G1 H1 s1)
theorem s_notT (ha : PT X a (tT X.K f)) : PT X (.UnaryOp .Not a pos) (tT X.K (fNot f)) :=
  pt_weak (pt_not ha) fun σ H Q ⟨G, en, c, en', R, hf, k⟩ => by
    obtain ⟨⟨d, en1⟩, h1, hf⟩ := Option.bind_eq_some_iff.mp hf
    cases hf
    exact ⟨G, en, d, en1, R, h1, fun G1 H1 s1 => k G1 H1 s1⟩
theorem s_andE (ha : PE X a (tE X.K (fTest f))) (hb : PE X (.BoolOp .And (b :: rest) pos) (tE X.K (fTest g))) : PE X (.BoolOp .And (a :: b :: rest) pos) (tE X.K (fTest (fAnd f g))) :=
  pe_weak (pe_and ha hb) fun σ H Q ⟨G, en, sv, en', R, hf, k⟩ => by
    obtain ⟨⟨c, en2⟩, hg, h2⟩ := Option.bind_eq_some_iff.mp hf
    cases h2
    obtain ⟨⟨d, en1⟩, h1, hg⟩ := Option.bind_eq_some_iff.mp hg
    refine ⟨G, en, _, en1, R, by unfold fTest; rw [h1]; rfl, fun v G1 H1 s1 r => ?_⟩
    cases (show DP X.K G1 v (.bool d) from r)
    refine ⟨d, rfl, ?_⟩
    cases d with
    | true => exact iteT ⟨G1, en1, _, en2, s1.rel, by unfold fTest; rw [show g en1 = some (c, en2) from hg]; rfl, fun v G' H' st r => k v G' H' (s1.trans st) r⟩
    | false => cases hg; exact iteF (k _ G1 H1 s1 (.bl false))
theorem s_orE (ha : PE X a (tE X.K (fTest f))) (hb : PE X (.BoolOp .Or (b :: rest) pos) (tE X.K (fTest g))) : PE X (.BoolOp .Or (a :: b :: rest) pos) (tE X.K (fTest (fOr f g))) :=
  pe_weak (pe_or ha hb) fun σ H Q ⟨G, en, sv, en', R, hf, k⟩ => by
    obtain ⟨⟨c, en2⟩, hg, h2⟩ := Option.bind_eq_some_iff.mp hf
    cases h2
    obtain ⟨⟨d, en1⟩, h1, hg⟩ := Option.bind_eq_some_iff.mp hg
    refine ⟨G, en, _, en1, R, by unfold fTest; rw [h1]; rfl, fun v G1 H1 s1 r => ?_⟩
    cases (show DP X.K G1 v (.bool d) from r)
    refine ⟨d, rfl, ?_⟩
    cases d with
    | false => exact iteF ⟨G1, en1, _, en2, s1.rel, by unfold fTest; rw [show g en1 = some (c, en2) from hg]; rfl, fun v G' H' st r => k v G' H' (s1.trans st) r⟩
    | true => cases hg; exact iteT (k _ G1 H1 s1 (.bl true))
theorem s_notE (ha : PE X a (tE X.K (fTest f))) : PE X (.UnaryOp .Not a pos) (tE X.K (fTest (fNot f))) :=
  pe_weak (pe_not ha) fun σ H Q ⟨G, en, sv, en', R, hf, k⟩ => by
    obtain ⟨⟨c, en2⟩, hg, h2⟩ := Option.bind_eq_some_iff.mp hf
    cases h2
    obtain ⟨⟨d, en1⟩, h1, hg⟩ := Option.bind_eq_some_iff.mp hg
    cases hg
    refine ⟨G, en, _, _, R, by unfold fTest; rw [h1]; rfl, fun v G1 H1 s1 r => ?_⟩
    cases (show DP X.K G1 v (.bool d) from r)
    exact ⟨d, rfl, k _ G1 H1 s1 (.bl _)⟩
/-- a value that is True or False, as a test -/
def boolS : SV → Option Bool
  | .dat (.bool b) => some b
  | _ => none
theorem boolS_ok {b : Bool} : ∀ {sv : SV}, boolS sv = some b → sv = .dat (.bool b)
  | .dat (.bool _), h => by cases h; rfl
  | .dat .none, h => by cases h
  | .dat (.int _), h => by cases h
  | .dat (.str _), h => by cases h
  | .dat (.list _), h => by cases h
  | .dat (.tuple _), h => by cases h
  | .dat (.dict _), h => by cases h
  | .fdic _, h => by cases h
  | .kdic _, h => by cases h
  | .rlst _, h => by cases h
  | .odic _ _, h => by cases h
  | .olst _, h => by cases h
def fBool (f : M SV) : M Bool := fun en => (f en).bind fun p => (boolS p.1).bind fun b => some (b, p.2)
variable {h : M SV}
theorem bool_test {en en' : En} {sv : SV} (e : fTest (fBool h) en = some (sv, en')) : h en = some (sv, en') := by
  obtain ⟨⟨c, en2⟩, hf, h2⟩ := Option.bind_eq_some_iff.mp e
  cases h2
  obtain ⟨⟨d, en1⟩, h1, hg⟩ := Option.bind_eq_some_iff.mp hf
  obtain ⟨b, h3, hg⟩ := Option.bind_eq_some_iff.mp hg
  cases hg
  have h4 : d = .dat (.bool c) := boolS_ok h3
  subst h4
  exact h1
theorem s_valE (ha : PE X a (tE X.K h)) : PE X a (tE X.K (fTest (fBool h))) := pe_weak ha fun σ H Q ⟨G, en, sv, en', R, hf, k⟩ => ⟨G, en, sv, en', R, bool_test hf, k⟩
theorem s_valT (ha : PE X a (tE X.K h)) (he : ∀ whole, isTrue a X.env whole = (do let v ← whole; standAt a.pos; holding [v] (truthy v))) : PT X a (tT X.K (fBool h)) :=
  pt_weak (pt_val ha he) fun σ H Q ⟨G, en, c, en', R, hf, k⟩ => by
    obtain ⟨⟨d, en1⟩, h1, hf⟩ := Option.bind_eq_some_iff.mp hf
    obtain ⟨b, h3, hf⟩ := Option.bind_eq_some_iff.mp hf
    cases hf
    have e := boolS_ok h3
    subst e
    refine ⟨G, en, _, _, R, h1, fun v G1 H1 s1 r => ?_⟩
    cases (show DP X.K G1 v (.bool c) from r)
    exact ⟨c, rfl, k G1 H1 s1⟩
/-- a if t else b -/
def fIte (f : M Bool) (h h' : M SV) : M SV := fun en => (f en).bind fun p => if p.1 = true then h p.2 else h' p.2
variable {h' : M SV}
theorem s_ite {t : Expr} (ht : PT X t (tT X.K f)) (ha : PE X a (tE X.K h)) (hb : PE X b (tE X.K h')) : PE X (.IfExp t a b pos) (tE X.K (fIte f h h')) :=
  pe_weak (pe_ifExp ht ha hb) fun σ H Q ⟨G, en, sv, en', R, hf, k⟩ => by
    obtain ⟨⟨d, en1⟩, h1, hf⟩ := Option.bind_eq_some_iff.mp hf
    refine ⟨G, en, d, en1, R, h1, fun G1 H1 s1 => ?_⟩
    cases d with
    | true => exact iteT ⟨G1, en1, sv, en', s1.rel, hf, fun v G' H' st r => k v G' H' (s1.trans st) r⟩
    | false => exact iteF ⟨G1, en1, sv, en', s1.rel, hf, fun v G' H' st r => k v G' H' (s1.trans st) r⟩

/-! #### subscripts -/
def fAt (fa fb : M Op) : M SV := fun en => (fa en).bind fun p => (fb p.2).bind fun q => (rs p.1 q.2).bind fun d1 => (rs q.1 q.2).bind fun d2 => (atD d1 d2).bind fun d => some (.dat d, q.2)
theorem s_at (ha : PE X a (tO X.K fa)) (hb : PE X b (tO X.K fb)) (hs : PlainIx b) : PE X (.Subscript a b pos) (tE X.K (fAt fa fb)) := pe_weak (pe_ix at_ok ha hb hs) fun σ H Q ⟨G, en, sv, en', R, hf, k⟩ => by
  obtain ⟨⟨o1, en1⟩, h1, hf⟩ := Option.bind_eq_some_iff.mp hf
  obtain ⟨⟨o2, en2⟩, h2, hf⟩ := Option.bind_eq_some_iff.mp hf
  obtain ⟨d1, e1, hf⟩ := Option.bind_eq_some_iff.mp hf
  obtain ⟨d2, e2, hf⟩ := Option.bind_eq_some_iff.mp hf
  obtain ⟨d, e3, hf⟩ := Option.bind_eq_some_iff.mp hf
  cases hf
  refine ⟨G, en, o1, en1, R, h1, fun v1 G1 H1 s1 q1 => ⟨G1, en1, o2, en2, s1.rel, h2, fun v2 G2 H2 s2 q2 => ?_⟩⟩
  obtain ⟨w1, w2⟩ := two s1 s2 q1 q2 e1 e2
  exact ⟨G2, d1, d2, d, s2.rel.gh, w1, w2, e3, fun v r => k v G2 H2 (s1.trans s2) r⟩
/-- the script's item -/
def rlS : Option (Option SV) → Option (List D)
  | some (some (.rlst ds)) => some ds
  | _ => none
theorem rlS_ok {ds : List D} : ∀ {o : Option (Option SV)}, rlS o = some ds → o = some (some (.rlst ds))
  | some (some (.rlst _)), h => by cases h; rfl
  | some (some (.dat _)), h => by cases h
  | some (some (.olst _)), h => by cases h
  | some (some (.fdic _)), h => by cases h
  | some (some (.kdic _)), h => by cases h
  | some (some (.odic _ _)), h => by cases h
  | some none, h => by cases h
  | none, h => by cases h
def intV : D → Option Int
  | .int i => some i
  | _ => none
theorem intV_ok {i : Int} : ∀ {d : D}, intV d = some i → d = .int i
  | .int _, h => by cases h; rfl
  | .none, h => by cases h
  | .bool _, h => by cases h
  | .str _, h => by cases h
  | .list _, h => by cases h
  | .tuple _, h => by cases h
  | .dict _, h => by cases h
def fAtR (i : Nat) (fb : M Op) : M SV := fun en => (fb en).bind fun q => (rlS en[i]?).bind fun ds => (rs q.1 q.2).bind fun d2 => (intV d2).bind fun j => (atI ds j).bind fun d => some (.dat d, q.2)
theorem s_atR {i : Nat} (ha : PE X a (tVar i)) (hb : PE X b (tO X.K fb)) (hs : PlainIx b) : PE X (.Subscript a b pos) (tE X.K (fAtR i fb)) := pe_weak (pe_ix ix_list ha hb hs) fun σ H Q ⟨G, en, sv, en', R, hf, k⟩ => by
  obtain ⟨⟨o2, en2⟩, h2, hf⟩ := Option.bind_eq_some_iff.mp hf
  obtain ⟨ds, e1, hf⟩ := Option.bind_eq_some_iff.mp hf
  obtain ⟨d2, e2, hf⟩ := Option.bind_eq_some_iff.mp hf
  obtain ⟨j, e4, hf⟩ := Option.bind_eq_some_iff.mp hf
  obtain ⟨d, e3, hf⟩ := Option.bind_eq_some_iff.mp hf
  cases hf
  have q := rlS_ok e1
  obtain ⟨v, hv, l, vs, rfl, hl, hd⟩ := R.slot i _ q
  refine ⟨_, hv, G, en, o2, en2, R, h2, fun v2 G2 H2 s2 q2 => ?_⟩
  obtain ⟨w, hw, hdw⟩ := hd.at e3
  have e5 := intV_ok e4
  subst e5
  exact ⟨l, vs, j, w, rfl, (rs_ok s2.rel q2 e2).int, seqL_gh s2.rel.gh (seqL_ex s2.ex hl), hw, k w G2 H2 s2 (dp_ex s2.ex _ _ hdw)⟩
def fLenR (i : Nat) : M SV := fun en => (rlS en[i]?).bind fun ds => some (.dat (.int ds.length), en)
theorem s_lenR {i : Nat} {x : Str} {p : Pos} (hx : x = "len") (hg : Gl X x) (hm : X.mg x = none) (ha : PE X a (tVar i)) (hs : starEach [a] X.env = (false, eval a X.env) :: starEach [] X.env) : PE X (.Call (.Name x p) [a] [] pos) (tE X.K (fLenR i)) := by
  subst hx
  refine pe_weak (pe_callB call_len_seq hg hm PySem.boot_len (pa_cons ha pa_nil hs) (by decide) (by decide) hs) fun σ H Q ⟨G, en, sv, en', R, hf, k⟩ => ?_
  obtain ⟨ds, e1, hf⟩ := Option.bind_eq_some_iff.mp hf
  cases hf
  have q := rlS_ok e1
  obtain ⟨v, hv, l, vs, rfl, hl, hd⟩ := R.slot i _ q
  refine ⟨_, hv, l, vs, rfl, .inl (seqL_gh R.gh hl), ?_⟩
  rw [hd.length]
  exact k _ G H (Stp.refl R) (.int _)

/-! #### slices -/
def tPt (K : PySem.W.Frag) (f : M (Option Int)) : TO := fun σ H Q => ∃ G en b en', Rel K G H σ en ∧ f en = some (b, en') ∧ ∀ G' H', Stp K σ G H en σ G' H' en' → Q b H'
def fNoPart : M (Option Int) := fun en => some (none, en)
def fPart (fa : M Op) : M (Option Int) := fun en => (fa en).bind fun p => (rs p.1 p.2).bind fun d => (intV d).bind fun i => some (some i, p.2)
theorem s_noPart : PO X none (tPt X.K fNoPart) := ⟨fun pins s σ H Q I ⟨G, en, c, en', R, hf, k⟩ => by
  cases hf
  exact po_none.run pins s σ H Q I (k G H (Stp.refl R))⟩
theorem s_part (ha : PE X a (tO X.K fa)) : PO X (some a) (tPt X.K (fPart fa)) := ⟨fun pins s σ H Q I ⟨G, en, c, en', R, hf, k⟩ => by
  obtain ⟨⟨o1, en1⟩, h1, hf⟩ := Option.bind_eq_some_iff.mp hf
  obtain ⟨d1, e1, hf⟩ := Option.bind_eq_some_iff.mp hf
  obtain ⟨i, e2, hf⟩ := Option.bind_eq_some_iff.mp hf
  cases hf
  have e5 := intV_ok e2
  subst e5
  exact (po_some ha).run pins s σ H Q I ⟨G, en, o1, _, R, h1, fun v G' H' st q => ⟨i, (rs_ok st.rel q e1).int, k G' H' st⟩⟩⟩
def fCut (fa : M Op) (fl fh : M (Option Int)) : M SV := fun en => (fa en).bind fun p => (fl p.2).bind fun q => (fh q.2).bind fun r => (rs p.1 r.2).bind fun d1 => (cutD d1 q.1 r.1).bind fun d => some (.dat d, r.2)
theorem s_cut {lo hi : Option Expr} {fl fh : M (Option Int)} {p2 : Pos} (ha : PE X a (tO X.K fa)) (hl : PO X lo (tPt X.K fl)) (hh : PO X hi (tPt X.K fh)) : PE X (.Subscript a (.Slice lo hi none p2) pos) (tE X.K (fCut fa fl fh)) :=
  pe_weak (pe_slice cut_ok ha hl hh) fun σ H Q ⟨G, en, sv, en', R, hf, k⟩ => by
    obtain ⟨⟨o1, en1⟩, h1, hf⟩ := Option.bind_eq_some_iff.mp hf
    obtain ⟨⟨l, en2⟩, h2, hf⟩ := Option.bind_eq_some_iff.mp hf
    obtain ⟨⟨u, en3⟩, h3, hf⟩ := Option.bind_eq_some_iff.mp hf
    obtain ⟨d1, e1, hf⟩ := Option.bind_eq_some_iff.mp hf
    obtain ⟨d, e3, hf⟩ := Option.bind_eq_some_iff.mp hf
    cases hf
    refine ⟨G, en, o1, en1, R, h1, fun v1 G1 H1 s1 q1 => ⟨G1, en1, l, en2, s1.rel, h2, fun G2 H2 s2 => ⟨G2, en2, u, en3, s2.rel, h3, fun G3 H3 s3 => ?_⟩⟩⟩
    exact ⟨G3, d1, d, s3.rel.gh, rs_ok s3.rel (q1.ex (s2.ex.trans s3.ex)) e1, e3, fun v G' H' ps r => k v G' H' (((s1.trans s2).trans s3).trans (ps.stp s3.rel)) r⟩

/-! #### argument lists -/
def fOs0 : M (List Op) := fun en => some ([], en)
def fOs (fa : M Op) (fr : M (List Op)) : M (List Op) := fun en => (fa en).bind fun p => (fr p.2).bind fun q => some (p.1 :: q.1, q.2)
variable {es : List Expr} {fr : M (List Op)}
theorem s_os0 : PA X [] (tOs X.K fOs0) := pa_weak pa_nil fun σ H Q ⟨G, en, os, en', R, hf, k⟩ => by
  cases hf
  exact k _ G H (Stp.refl R) .nil
theorem paired_imp {α β : Type} {F F' : α → β → Prop} {l : List α} {m : List β} (h : Paired F l m) (g : ∀ a b, F a b → F' a b) : Paired F' l m := Paired.mapP h g
theorem s_os (ha : PE X a (tO X.K fa)) (hr : PA X es (tOs X.K fr)) (hs : starEach (a :: es) X.env = (false, eval a X.env) :: starEach es X.env) : PA X (a :: es) (tOs X.K (fOs fa fr)) := pa_weak (pa_cons ha hr hs) fun σ H Q ⟨G, en, os, en', R, hf, k⟩ => by
  obtain ⟨⟨o1, en1⟩, h1, hf⟩ := Option.bind_eq_some_iff.mp hf
  obtain ⟨⟨o2, en2⟩, h2, hf⟩ := Option.bind_eq_some_iff.mp hf
  cases hf
  exact ⟨G, en, o1, en1, R, h1, fun v G1 H1 s1 q1 => ⟨G1, en1, o2, _, s1.rel, h2, fun vs G2 H2 s2 q2 => k (v :: vs) G2 H2 (s1.trans s2) (.cons (q1.ex s2.ex) q2)⟩⟩
def rsAll : List Op → En → Option (List D)
  | [], _ => some []
  | o :: os, en => (rs o en).bind fun d => (rsAll os en).bind fun ds => some (d :: ds)
theorem rsAll_ok {G H : Hp} {σ : L2.St} {en : En} (R : Rel K G H σ en) : ∀ {os : List Op} {vs : List V} {ds : List D}, Paired (OR K G σ) vs os → rsAll os en = some ds → VDs K G H vs ds
  | [], _, _, .nil, e => by cases e; exact .nil
  | o :: os, _, ds, .cons r t, e => by
    obtain ⟨d, e1, e⟩ := Option.bind_eq_some_iff.mp e
    obtain ⟨ds', e2, e⟩ := Option.bind_eq_some_iff.mp e
    cases e
    exact .cons (rs_ok R r e1) (rsAll_ok R t e2)
def fFn (g : Fn) (fr : M (List Op)) : M SV := fun en => (fr en).bind fun p => (rsAll p.1 p.2).bind fun ds => (fnD g ds).bind fun d => some (.dat d, p.2)
theorem fn_core {g : Fn} : ∀ σ H Q, tE K (fFn g fr) σ H Q → tCB (rFn K (fnD g)) (tOs K fr) σ H Q := fun σ H Q ⟨G, en, sv, en', R, hf, k⟩ => by
  obtain ⟨⟨os, en1⟩, h1, hf⟩ := Option.bind_eq_some_iff.mp hf
  obtain ⟨ds, e1, hf⟩ := Option.bind_eq_some_iff.mp hf
  obtain ⟨d, e2, hf⟩ := Option.bind_eq_some_iff.mp hf
  cases hf
  exact ⟨G, en, os, _, R, h1, fun vs G1 H1 s1 q => ⟨G1, ds, d, s1.rel.gh, rsAll_ok s1.rel q e1, e2, fun v G' H' ps r => k v G' H' (s1.trans (ps.stp s1.rel)) r⟩⟩
theorem s_fn (g : Fn) {x : Str} {p : Pos} (hc : X.calm = true) (hx : x = g.name) (hg : Gl X x) (hm : X.mg x = none) (ha : PA X (a :: es) (tOs X.K fr)) (he : starEach (a :: es) X.env = (false, eval a X.env) :: starEach es X.env)
    (hpl : (backTo pos (starEach es X.env)).any (·.1) = false) : PE X (.Call (.Name x p) (a :: es) [] pos) (tE X.K (fFn g fr)) := by
  have hn : x ≠ "__name__" := by subst hx; cases g <;> decide
  have hd : (x == ("__debug__" : Str)) = false := by subst hx; cases g <;> decide
  have hb : bootBuiltins x = some g.val := by subst hx; cases g <;> decide +kernel
  have hk := fn_ok (X := X) g hc
  cases g with
  | int => exact pe_weak (pe_callTy hk hg hm hb ha hn hd he hpl) fn_core
  | _ => exact pe_weak (pe_callB hk hg hm hb ha hn hd he hpl) fn_core
end
end Pf

namespace Pf
open PySem L2

/-! #### lists of values, displays -/
def tVs (K : PySem.W.Frag) (f : M (List SV)) : TA := fun σ H Q => ∃ G en os en', Rel K G H σ en ∧ f en = some (os, en') ∧ ∀ vs G' H', Stp K σ G H en σ G' H' en' → Paired (VR K G') vs os → Q vs H'
def fVs0 : M (List SV) := fun en => some ([], en)
def fVs (h : M SV) (fr : M (List SV)) : M (List SV) := fun en => (h en).bind fun p => (fr p.2).bind fun q => some (p.1 :: q.1, q.2)
def datS : SV → Option D
  | .dat d => some d
  | _ => none
theorem datS_ok {d : D} : ∀ {o : SV}, datS o = some d → o = .dat d
  | .dat _, h => by cases h; rfl
  | .fdic _, h => by cases h
  | .kdic _, h => by cases h
  | .rlst _, h => by cases h
  | .odic _ _, h => by cases h
  | .olst _, h => by cases h
def datsS : List SV → Option (List D)
  | [] => some []
  | s :: r => (datS s).bind fun d => (datsS r).bind fun ds => some (d :: ds)
theorem datsS_ok {K : PySem.W.Frag} {G : Hp} : ∀ {ss : List SV} {vs : List V} {ds : List D}, Paired (VR K G) vs ss → datsS ss = some ds → DPs K G vs ds
  | [], _, _, .nil, e => by cases e; exact .nil
  | s :: ss, _, ds, .cons r t, e => by
    obtain ⟨d, e1, e⟩ := Option.bind_eq_some_iff.mp e
    obtain ⟨ds', e2, e⟩ := Option.bind_eq_some_iff.mp e
    cases e
    have q := datS_ok e1
    subst q
    exact .cons r (datsS_ok t e2)
section
variable {X : Cx} {K : PySem.W.Frag} {a b : Expr} {es : List Expr} {h : M SV} {fr : M (List SV)} {fa fb : M Op} {pos : Pos}
theorem s_vs0 : PA X [] (tVs X.K fVs0) := pa_weak pa_nil fun σ H Q ⟨G, en, os, en', R, hf, k⟩ => by
  cases hf
  exact k _ G H (Stp.refl R) .nil
theorem s_vs (ha : PE X a (tE X.K h)) (hr : PA X es (tVs X.K fr)) (hs : starEach (a :: es) X.env = (false, eval a X.env) :: starEach es X.env) : PA X (a :: es) (tVs X.K (fVs h fr)) := pa_weak (pa_cons ha hr hs) fun σ H Q ⟨G, en, os, en', R, hf, k⟩ => by
  obtain ⟨⟨o1, en1⟩, h1, hf⟩ := Option.bind_eq_some_iff.mp hf
  obtain ⟨⟨o2, en2⟩, h2, hf⟩ := Option.bind_eq_some_iff.mp hf
  cases hf
  exact ⟨G, en, o1, en1, R, h1, fun v G1 H1 s1 q1 => ⟨G1, en1, o2, _, s1.rel, h2, fun vs G2 H2 s2 q2 => k (v :: vs) G2 H2 (s1.trans s2) (.cons (q1.ex s2.ex) q2)⟩⟩
def fTup (fr : M (List SV)) : M SV := fun en => (fr en).bind fun p => (datsS p.1).bind fun ds => if ds.length ≤ lim then some (.dat (.tuple ds), p.2) else none
theorem s_tup {k : Nat} (ha : PA X es (tVs X.K fr)) : PE X (.Tuple es k pos) (tE X.K (fTup fr)) := pe_weak (peX_tup ha) fun σ H Q ⟨G, en, sv, en', R, hf, k⟩ => by
  obtain ⟨⟨os, en1⟩, h1, hf⟩ := Option.bind_eq_some_iff.mp hf
  obtain ⟨ds, e1, hf⟩ := Option.bind_eq_some_iff.mp hf
  split at hf
  · rename_i hl
    cases hf
    refine ⟨G, en, os, _, R, h1, fun vs G1 H1 s1 q => ?_⟩
    have hd := datsS_ok q e1
    refine ⟨by rw [hd.length]; exact Nat.le_trans hl line_lim, fun p its hp => ?_⟩
    have ps : Pst G1 H1 (upd G1 p (.frz (tupO its) (.tup vs))) (upd H1 p (.frz (tupO its) (.tup vs))) := Pst.new s1.rel.gh hp
    exact k _ _ _ (s1.trans (ps.stp s1.rel)) (.tup (.inl ⟨its, upd_same⟩) (dps_ex ps.ex _ _ hd))
  · cases hf
/-! #### new lists -/
/-- as tL, and no slot has it -/
def tN (K : PySem.W.Frag) (f : M (List D)) : TE := fun σ H Q => ∃ G en ds en', Rel K G H σ en ∧ f en = some (ds, en') ∧
  ∀ p vs G' H', Stp K σ G H en σ G' H' en' → H p = none → H' p = some (.lst vs) → G' p = none → ¬ Own σ en' p → DPs K G' vs ds → Q (.ref p) H'
theorem free_of_live {σ σ' : L2.St} {G G' H H' : Hp} {en en' : En} (s : Stp K σ G H en σ' G' H' en') {p : Addr} (h : H' p = none) : H p = none := by
  cases e : H p with
  | none => rfl
  | some o => exact absurd h (s.live p (by rw [e]; exact Option.some_ne_none _))
/-- laid at the end -/
theorem new_at {σ : L2.St} {G G1 H H1 : Hp} {en en1 : En} {Q : VK} {ds : List D} {vs : List V} {p : Addr} (s1 : Stp K σ G H en σ G1 H1 en1) (hp : H1 p = none) (hd : DPs K G1 vs ds)
    (k : ∀ p vs G' H', Stp K σ G H en σ G' H' en1 → H p = none → H' p = some (.lst vs) → G' p = none → ¬ Own σ en1 p → DPs K G' vs ds → Q (.ref p) H') : Q (.ref p) (upd H1 p (.lst vs)) := by
  have ps : Pst G1 H1 G1 (upd H1 p (.lst vs)) := Pst.lay s1.rel.gh hp
  exact k p vs G1 _ (s1.trans (ps.stp s1.rel)) (free_of_live s1 hp) upd_same (s1.rel.gh.free hp) (fun z => (s1.rel.own z).1 hp) hd
/-- frozen at once -/
theorem Stp.freezeNew {σ : L2.St} {G G1 H H1 : Hp} {en en1 : En} {p : Addr} {o : HO} (s1 : Stp K σ G H en σ G1 H1 en1) (h0 : H p = none) (h1 : H1 p = some o) (g1 : G1 p = none) (no : ¬ Own σ en1 p) : Stp K σ G H en σ (upd G1 p o) H1 en1 where
  rel := ⟨s1.rel.gh.freeze h1, s1.rel.len, fun i sv e => by
    obtain ⟨v, f, q⟩ := s1.rel.slot i sv e
    refine ⟨v, f, q.carry (Ex.new g1) fun a u w ev ha ga => ⟨ha, ?_⟩⟩
    rw [upd_ne]
    · exact ga
    · rintro rfl
      subst ev
      exact no ⟨i, sv, e, w, f⟩, s1.rel.sep⟩
  ex := s1.ex.trans (Ex.new g1)
  frame := s1.frame
  live := s1.live
  fresh := fun b q => by
    by_cases e : b = p
    · subst e; exact .inr (.inl h0)
    · rw [upd_ne e] at q; exact s1.fresh b q
  sub := s1.sub
  prot := s1.prot
def fFresh (f : M (List D)) : M SV := fun en => (f en).bind fun p => some (.dat (.list p.1), p.2)
theorem s_fresh {f : M (List D)} (ha : PE X a (tN X.K f)) : PE X a (tE X.K (fFresh f)) := pe_weak ha fun σ H Q ⟨G, en, sv, en', R, hf, k⟩ => by
  obtain ⟨⟨ds, en1⟩, h1, hf⟩ := Option.bind_eq_some_iff.mp hf
  cases hf
  exact ⟨G, en, ds, _, R, h1, fun p vs G' H' s1 h0 hp gp no hd => k _ _ _ (s1.freezeNew h0 hp gp no) (.lst upd_same (dps_ex (Ex.new gp) _ _ hd))⟩
def fDisp (fr : M (List SV)) : M (List D) := fun en => (fr en).bind fun p => (datsS p.1).bind fun ds => if ds.length ≤ lim then some (ds, p.2) else none
theorem s_disp (ha : PA X es (tVs X.K fr)) : PE X (.List es pos) (tN X.K (fDisp fr)) := pe_weak (pe_lst ha) fun σ H Q ⟨G, en, sv, en', R, hf, k⟩ => by
  obtain ⟨⟨os, en1⟩, h1, hf⟩ := Option.bind_eq_some_iff.mp hf
  obtain ⟨ds, e1, hf⟩ := Option.bind_eq_some_iff.mp hf
  split at hf
  · rename_i hl
    cases hf
    refine ⟨G, en, os, _, R, h1, fun vs G1 H1 s1 q => ?_⟩
    have hd := datsS_ok q e1
    exact ⟨by rw [hd.length]; exact Nat.le_trans hl line_lim, fun p hp => new_at s1 hp hd k⟩
  · cases hf
def lstV : D → Option (List D)
  | .list ds => some ds
  | _ => none
theorem lstV_ok {ds : List D} : ∀ {d : D}, lstV d = some ds → d = .list ds
  | .list _, h => by cases h; rfl
  | .none, h => by cases h
  | .bool _, h => by cases h
  | .str _, h => by cases h
  | .int _, h => by cases h
  | .tuple _, h => by cases h
  | .dict _, h => by cases h
def seqV : D → Option (List D)
  | .list ds => some ds
  | .tuple ds => some ds
  | _ => none
theorem seqV_ok {ds : List D} : ∀ {d : D}, seqV d = some ds → d = .list ds ∨ d = .tuple ds
  | .list _, h => by cases h; exact .inl rfl
  | .tuple _, h => by cases h; exact .inr rfl
  | .none, h => by cases h
  | .bool _, h => by cases h
  | .str _, h => by cases h
  | .int _, h => by cases h
  | .dict _, h => by cases h
/-- list + list, kept by its slot -/
def fCatL (fa fb : M Op) : M (List D) := fun en => (fa en).bind fun p => (fb p.2).bind fun q => (rs p.1 q.2).bind fun d1 => (rs q.1 q.2).bind fun d2 => (lstV d1).bind fun x => (lstV d2).bind fun y =>
  if x.length + y.length ≤ lim then some (x ++ y, q.2) else none
theorem s_catL (ha : PE X a (tO X.K fa)) (hb : PE X b (tO X.K fb)) : PE X (.BinOp a .Add b pos) (tN X.K (fCatL fa fb)) := pe_weak (pe_op op_cat ha hb) fun σ H Q ⟨G, en, sv, en', R, hf, k⟩ => by
  obtain ⟨⟨o1, en1⟩, h1, hf⟩ := Option.bind_eq_some_iff.mp hf
  obtain ⟨⟨o2, en2⟩, h2, hf⟩ := Option.bind_eq_some_iff.mp hf
  obtain ⟨d1, e1, hf⟩ := Option.bind_eq_some_iff.mp hf
  obtain ⟨d2, e2, hf⟩ := Option.bind_eq_some_iff.mp hf
  obtain ⟨x, e3, hf⟩ := Option.bind_eq_some_iff.mp hf
  obtain ⟨y, e4, hf⟩ := Option.bind_eq_some_iff.mp hf
  split at hf
  · rename_i hl
    cases hf
    refine ⟨G, en, o1, en1, R, h1, fun v1 G1 H1 s1 q1 => ⟨G1, en1, o2, _, s1.rel, h2, fun v2 G2 H2 s2 q2 => ?_⟩⟩
    obtain ⟨w1, w2⟩ := two s1 s2 q1 q2 e1 e2
    have z1 := lstV_ok e3
    have z2 := lstV_ok e4
    subst z1 z2
    obtain ⟨l, vs, rfl, hl1, hd1⟩ := w1.lst s2.rel.gh
    obtain ⟨m, ws, rfl, hm1, hd2⟩ := w2.lst s2.rel.gh
    exact ⟨l, m, vs, ws, rfl, rfl, hl1, hm1, by rw [hd1.length, hd2.length]; exact Nat.le_trans hl line_lim, fun p hp => new_at (s1.trans s2) hp (hd1.append hd2) k⟩
  · cases hf
def fRepL (fa fb : M Op) : M (List D) := fun en => (fa en).bind fun p => (fb p.2).bind fun q => (rs p.1 q.2).bind fun d1 => (rs q.1 q.2).bind fun d2 => (lstV d1).bind fun x => (intV d2).bind fun i =>
  if 0 ≤ i ∧ i ≤ 1000 ∧ x.length ≤ 90 then some ((List.replicate i.toNat x).flatten, q.2) else none
theorem s_repL (ha : PE X a (tO X.K fa)) (hb : PE X b (tO X.K fb)) : PE X (.BinOp a .Mult b pos) (tN X.K (fRepL fa fb)) := pe_weak (pe_op op_rep ha hb) fun σ H Q ⟨G, en, sv, en', R, hf, k⟩ => by
  obtain ⟨⟨o1, en1⟩, h1, hf⟩ := Option.bind_eq_some_iff.mp hf
  obtain ⟨⟨o2, en2⟩, h2, hf⟩ := Option.bind_eq_some_iff.mp hf
  obtain ⟨d1, e1, hf⟩ := Option.bind_eq_some_iff.mp hf
  obtain ⟨d2, e2, hf⟩ := Option.bind_eq_some_iff.mp hf
  obtain ⟨x, e3, hf⟩ := Option.bind_eq_some_iff.mp hf
  obtain ⟨i, e4, hf⟩ := Option.bind_eq_some_iff.mp hf
  split at hf
  · rename_i hl
    cases hf
    refine ⟨G, en, o1, en1, R, h1, fun v1 G1 H1 s1 q1 => ⟨G1, en1, o2, _, s1.rel, h2, fun v2 G2 H2 s2 q2 => ?_⟩⟩
    obtain ⟨w1, w2⟩ := two s1 s2 q1 q2 e1 e2
    have z1 := lstV_ok e3
    have z2 := intV_ok e4
    subst z1 z2
    obtain ⟨l, vs, rfl, hl1, hd1⟩ := w1.lst s2.rel.gh
    refine ⟨l, i, vs, rfl, w2.int, hl1, by omega, by omega, ?_, fun p hp => new_at (s1.trans s2) hp (hd1.rep _) k⟩
    rw [hd1.length]
    have hk : i.toNat ≤ 1000 := by omega
    exact Nat.le_trans (Nat.mul_le_mul hl.2.2 hk) (Nat.le_trans (by decide) line_lim)
  · cases hf
/-- list(x) -/
def fListOf (fa : M Op) : M (List D) := fun en => (fa en).bind fun p => (rs p.1 p.2).bind fun d1 => (seqV d1).bind fun x => some (x, p.2)
theorem s_listOf {x : Str} {p : Pos} (hx : x = "list") (hg : Gl X x) (hm : X.mg x = none) (ha : PE X a (tO X.K fa)) (hs : starEach [a] X.env = (false, eval a X.env) :: starEach [] X.env) : PE X (.Call (.Name x p) [a] [] pos) (tN X.K (fListOf fa)) := by
  subst hx
  refine pe_weak (pe_callTy call_list_of hg hm (by decide +kernel) (pa_cons ha pa_nil hs) (by decide) (by decide) hs) fun σ H Q ⟨G, en, sv, en', R, hf, k⟩ => ?_
  obtain ⟨⟨o1, en1⟩, h1, hf⟩ := Option.bind_eq_some_iff.mp hf
  obtain ⟨d1, e1, hf⟩ := Option.bind_eq_some_iff.mp hf
  obtain ⟨ds, e3, hf⟩ := Option.bind_eq_some_iff.mp hf
  cases hf
  refine ⟨G, en, o1, _, R, h1, fun v1 G1 H1 s1 q1 => ?_⟩
  have w1 := rs_ok s1.rel q1 e1
  rcases seqV_ok e3 with z | z
  · subst z
    obtain ⟨l, vs, rfl, hl1, hd1⟩ := w1.lst s1.rel.gh
    exact ⟨l, vs, rfl, .inl (SqL.of hl1), fun p hp => new_at s1 hp hd1 k⟩
  · subst z
    obtain ⟨l, vs, rfl, hl1, hd1, _⟩ := w1.tup
    exact ⟨l, vs, rfl, .inr (seqT_gh s1.rel.gh hl1), fun p hp => new_at s1 hp hd1 k⟩
/-- tuple(x) -/
def fTupOf (fa : M Op) : M SV := fun en => (fa en).bind fun p => (rs p.1 p.2).bind fun d1 => (seqV d1).bind fun x => some (.dat (.tuple x), p.2)
theorem s_tupOf {x : Str} {p : Pos} (hx : x = "tuple") (hg : Gl X x) (hm : X.mg x = none) (ha : PE X a (tO X.K fa)) (hs : starEach [a] X.env = (false, eval a X.env) :: starEach [] X.env) : PE X (.Call (.Name x p) [a] [] pos) (tE X.K (fTupOf fa)) := by
  subst hx
  refine pe_weak (pe_callTy callX_tuple hg hm (by decide +kernel) (pa_cons ha pa_nil hs) (by decide) (by decide) hs) fun σ H Q ⟨G, en, sv, en', R, hf, k⟩ => ?_
  obtain ⟨⟨o1, en1⟩, h1, hf⟩ := Option.bind_eq_some_iff.mp hf
  obtain ⟨d1, e1, hf⟩ := Option.bind_eq_some_iff.mp hf
  obtain ⟨ds, e3, hf⟩ := Option.bind_eq_some_iff.mp hf
  cases hf
  refine ⟨G, en, o1, _, R, h1, fun v1 G1 H1 s1 q1 => ?_⟩
  have w1 := rs_ok s1.rel q1 e1
  rcases seqV_ok e3 with z | z
  · subst z
    obtain ⟨l, vs, rfl, hl1, hd1⟩ := w1.lst s1.rel.gh
    refine ⟨l, vs, rfl, .inl ⟨SqL.of hl1, fun p its hp => ?_⟩⟩
    have ps : Pst G1 H1 (upd G1 p (.frz (tupO its) (.tup vs))) (upd H1 p (.frz (tupO its) (.tup vs))) := Pst.new s1.rel.gh hp
    exact k _ _ _ (s1.trans (ps.stp s1.rel)) (.tup (.inl ⟨its, upd_same⟩) (dps_ex ps.ex _ _ hd1))
  · subst z
    obtain ⟨l, vs, rfl, hl1, hd1, hx⟩ := w1.tup
    exact ⟨l, vs, rfl, .inr ⟨seqT_gh s1.rel.gh hl1, k _ _ _ s1 hx⟩⟩
/-- isinstance(x, T) -/
def fIsi (t : Ty) (fa : M Op) : M SV := fun en => (fa en).bind fun p => (rs p.1 p.2).bind fun d1 => (isiD t d1).bind fun c => some (.dat (.bool c), p.2)
theorem s_isi (t : Ty) {x y : Str} {p p2 : Pos} (hx : x = "isinstance") (hg : Gl X x) (hm : X.mg x = none) (hy : y = Str.ofString t.name) (hg2 : Gl X y) (hm2 : X.mg y = none) (ha : PE X a (tO X.K fa))
    (hs : starEach [a, .Name y p2] X.env = (false, eval a X.env) :: starEach [.Name y p2] X.env) : PE X (.Call (.Name x p) [a, .Name y p2] [] pos) (tE X.K (fIsi t fa)) := by
  have ht : PE X (.Name y p2) (tC (.ty t.name)) := pe_bltn hg2 hm2 (by subst hy; cases t <;> decide +kernel) rfl (by subst hy; cases t <;> decide) (by subst hy; cases t <;> decide)
  subst hx
  refine pe_weak (pe_callB (isi_ok t) hg hm (by decide +kernel) (pa_cons ha (pa_cons ht pa_nil rfl) hs) (by decide) (by decide) hs) fun σ H Q ⟨G, en, sv, en', R, hf, k⟩ => ?_
  obtain ⟨⟨o1, en1⟩, h1, hf⟩ := Option.bind_eq_some_iff.mp hf
  obtain ⟨d1, e1, hf⟩ := Option.bind_eq_some_iff.mp hf
  obtain ⟨c, e3, hf⟩ := Option.bind_eq_some_iff.mp hf
  cases hf
  exact ⟨G, en, o1, _, R, h1, fun v1 G1 H1 s1 q1 => ⟨G1, v1, d1, c, rfl, s1.rel.gh, rs_ok s1.rel q1 e1, e3, k _ _ _ s1 (.bl c)⟩⟩
end

/-! #### calls of the text's defs -/
abbrev Fnc := List SV → Option (D × List SV)
/-- a def's promise: told by its function -/
def spD (K : PySem.W.Frag) (c : Fnc) (n : Nat) : Sp := fun vs H Q _ => vs.length = n ∧ ∃ G svs d svs', Rel K G H (vs.map some) (svs.map some) ∧ c svs = some (d, svs') ∧
  ∀ v G' H', Stp K (vs.map some) G H (svs.map some) (vs.map some) G' H' (svs'.map some) → DP K G' v d → Q v H'
section
variable {X : Cx} {K : PySem.W.Frag} {a b : Expr} {es : List Expr} {h : M SV} {fr : M (List SV)} {pos : Pos}
theorem vals_rel {G H : Hp} : ∀ {vs : List V} {svs : List SV}, GH G H → Paired (VR K G) vs svs → Rel K G H (vs.map some) (svs.map some) := fun {vs svs} g p => by
  have get : ∀ {vs : List V} {svs : List SV} (i : Nat) (sv : SV), Paired (VR K G) vs svs → svs[i]? = some sv → ∃ v, vs[i]? = some v ∧ VR K G v sv := by
    intro vs svs i sv p
    induction p generalizing i with
    | nil => intro e; simp at e
    | cons r t ih =>
      intro e
      cases i with
      | zero => simp at e; subst e; exact ⟨_, rfl, r⟩
      | succ i =>
        obtain ⟨v, h1, h2⟩ := ih i (by simpa using e)
        exact ⟨v, by simpa using h1, h2⟩
  have own : ∀ (i : Nat) (sv : SV), (svs.map some)[i]? = some (some sv) → ∃ v, (vs.map some)[i]? = some (some v) ∧ VR K G v sv := fun i sv e => by
    rw [List.getElem?_map] at e
    obtain ⟨s, h1, h2⟩ := Option.map_eq_some_iff.mp e
    cases h2
    obtain ⟨v, h3, h4⟩ := get i sv p h1
    exact ⟨v, by rw [List.getElem?_map, h3]; rfl, h4⟩
  refine ⟨g, ?_, fun i sv e => ?_, fun i j sv sv' v e1 _ w1 _ _ _ => ?_⟩
  · rw [List.length_map, List.length_map]; exact (Paired.length p).symm
  · obtain ⟨v, h1, h2⟩ := own i sv e
    exact ⟨v, h1, h2.sr⟩
  · obtain ⟨v, _, h2⟩ := own i sv e1
    rw [h2.not_own] at w1; cases w1
theorem own_none {G : Hp} {vs : List V} {svs : List SV} {b : Addr} (p : Paired (VR K G) vs svs) : ¬ Own (vs.map some) (svs.map some) b := fun ⟨i, sv, e, w, _⟩ => by
  have all : ∀ {vs : List V} {svs : List SV}, Paired (VR K G) vs svs → ∀ s ∈ svs, ownB s = false := by
    intro vs svs p
    induction p with
    | nil => intro s h; cases h
    | cons r t ih =>
      intro s h
      rcases List.mem_cons.mp h with rfl | h
      · exact r.not_own
      · exact ih s h
  rw [List.getElem?_map] at e
  obtain ⟨s, h1, h2⟩ := Option.map_eq_some_iff.mp e
  cases h2
  rw [all p sv (List.mem_of_getElem? h1)] at w
  cases w
def fCall (n : Nat) (c : Fnc) (fr : M (List SV)) : M SV := fun en => (fr en).bind fun p => if p.1.length = n then (c p.1).bind fun r => some (.dat r.1, p.2) else none
theorem s_call {c : Fnc} {n k : Nat} {f : Addr} {fd : FuncData} {ps : List Str} {x : Str} {p : Pos} (F : FnOk X.prog X.w X.K X.mg X.base CX0 k f fd ps (spD X.K c n)) (hr : Room k X.A) (hg : Gl X x) (hm : X.mg x = some (.ref f)) (hk : PySem.W.keepIn X.K (.ref f) = true) (hb : Binds X.K fd ps [])
    (ha : PA X (a :: es) (tVs X.K fr)) (hdb : (x == ("__debug__" : Str)) = false) (he : starEach (a :: es) X.env = (false, eval a X.env) :: starEach es X.env) (hpl : (backTo pos (starEach es X.env)).any (·.1) = false) :
    PE X (.Call (.Name x p) (a :: es) [] pos) (tE X.K (fCall n c fr)) := pe_weak (pe_call F hr hg hm hk hb .nil pass0 ha hdb he hpl) fun σ H Q ⟨G, en, sv, en', R, hf, k⟩ => by
  obtain ⟨⟨os, en1⟩, h1, hf⟩ := Option.bind_eq_some_iff.mp hf
  split at hf
  · rename_i hn
    obtain ⟨⟨d, svs'⟩, h2, hf⟩ := Option.bind_eq_some_iff.mp hf
    cases hf
    refine ⟨G, en, os, _, R, h1, fun vs G1 H1 s1 q => ?_⟩
    refine ⟨by rw [List.append_nil, Paired.length q]; exact hn, G1, os, d, svs', by rw [List.append_nil]; exact vals_rel s1.rel.gh q, h2, fun v G' H' st r => ?_⟩
    rw [List.append_nil] at st
    have no : ∀ b, ¬ Own (vs.map some) (os.map some) b := fun b => own_none q
    have ps : Pst G1 H1 G' H' := ⟨st.rel.gh, st.ex, fun b o hb => st.frame b o hb (no b), fun b hb => (st.fresh b hb).imp id fun z => z.elim id fun w => absurd w (no b)⟩
    exact k v G' H' (s1.trans (ps.stp s1.rel)) r
  · cases hf
/-- a call whose first argument is a slot's own dict, to be changed -/
def odS : Option (Option SV) → Option (Bool × List (Key × D))
  | some (some (.odic p kvs)) => some (p, kvs)
  | _ => none
theorem odS_ok {q : Bool × List (Key × D)} : ∀ {o : Option (Option SV)}, odS o = some q → o = some (some (.odic q.1 q.2))
  | some (some (.odic _ _)), h => by cases h; rfl
  | some (some (.dat _)), h => by cases h
  | some (some (.olst _)), h => by cases h
  | some (some (.fdic _)), h => by cases h
  | some (some (.kdic _)), h => by cases h
  | some (some (.rlst _)), h => by cases h
  | some none, h => by cases h
  | none, h => by cases h
def odH : List SV → Option (List (Key × D))
  | .odic _ kvs :: _ => some kvs
  | _ => none
def fCallW (n : Nat) (c : Fnc) (i : Nat) (fr : M (List SV)) : M SV := fun en => if isSet en[i]? = true then (fr en).bind fun p => if p.1.length + 1 = n then
  (odS p.2[i]?).bind fun q => (c (.odic true q.2 :: p.1)).bind fun r => (odH r.2).bind fun kvs' => some (.dat r.1, p.2.set i (some (.odic q.1 kvs'))) else none else none
theorem w_rel {G H : Hp} {σ : L2.St} {en : En} {i : Nat} {p : Bool} {kvs : List (Key × D)} {v0 : V} {ws : List V} {os : List SV} (R : Rel K G H σ en) (he : en[i]? = some (some (.odic p kvs))) (hv : σ[i]? = some (some v0)) (q : Paired (VR K G) ws os) :
    Rel K G H ((v0 :: ws).map some) ((SV.odic true kvs :: os).map some) := by
  have B := vals_rel R.gh q
  refine ⟨R.gh, congrArg Nat.succ B.len, fun j sv e => ?_, fun j l sv sv' v e1 e2 w1 w2 _ _ => ?_⟩
  · cases j with
    | zero =>
      cases e
      obtain ⟨v, hv', hs⟩ := R.slot i _ he
      rw [hv] at hv'
      cases hv'
      exact ⟨v0, rfl, hs⟩
    | succ j => exact B.slot j sv e
  · have own1 : ∀ (j : Nat) (sv : SV), ((SV.odic true kvs :: os).map some)[j]? = some (some sv) → ownB sv = true → j = 0 := fun j sv e w => by
      cases j with
      | zero => rfl
      | succ j =>
        have e' : (os.map some)[j]? = some (some sv) := e
        obtain ⟨v, hv', hs⟩ := B.slot j sv e'
        obtain ⟨a, rfl, ha, ga⟩ := hs.own_at w
        exact absurd (show Own (ws.map some) (os.map some) a from ⟨j, sv, e', w, hv'⟩) (own_none q)
    rw [own1 j sv e1 w1, own1 l sv' e2 w2]
theorem s_callW {c : Fnc} {n k i : Nat} {f : Addr} {fd : FuncData} {ps : List Str} {x : Str} {p : Pos} (F : FnOk X.prog X.w X.K X.mg X.base CX0 k f fd ps (spD X.K c n)) (hr : Room k X.A) (hg : Gl X x) (hm : X.mg x = some (.ref f)) (hk : PySem.W.keepIn X.K (.ref f) = true) (hb : Binds X.K fd ps [])
    (h0 : PE X a (tVar i)) (ha : PA X es (tVs X.K fr)) (hdb : (x == ("__debug__" : Str)) = false) (he : starEach (a :: es) X.env = (false, eval a X.env) :: starEach es X.env) (hpl : (backTo pos (starEach es X.env)).any (·.1) = false) :
    PE X (.Call (.Name x p) (a :: es) [] pos) (tE X.K (fCallW n c i fr)) := pe_weak (pe_call F hr hg hm hk hb .nil pass0 (pa_cons h0 ha he) hdb he hpl) fun σ H Q ⟨G, en, sv, en', R, hf, k⟩ => by
  unfold fCallW at hf
  split at hf
  rotate_left
  · cases hf
  rename_i hset
  obtain ⟨sv0, hsv0⟩ := isSet_ok hset
  obtain ⟨v0, hv0, _⟩ := R.slot i sv0 hsv0
  obtain ⟨⟨os, en1⟩, h1, hf⟩ := Option.bind_eq_some_iff.mp hf
  split at hf
  rotate_left
  · cases hf
  rename_i hn
  obtain ⟨⟨pf, kvs⟩, h4, hf⟩ := Option.bind_eq_some_iff.mp hf
  obtain ⟨⟨d, svs'⟩, h2, hf⟩ := Option.bind_eq_some_iff.mp hf
  obtain ⟨kvs', h3, hf⟩ := Option.bind_eq_some_iff.mp hf
  cases hf
  have e4 := odS_ok h4
  refine ⟨v0, hv0, G, en, os, en1, R, h1, fun ws G1 H1 s1 q => ?_⟩
  have RA := w_rel s1.rel e4 hv0 q
  refine ⟨?_, G1, _, d, svs', by rw [List.append_nil]; exact RA, h2, fun v G' H' st r => ?_⟩
  · rw [List.append_nil, List.length_cons, Paired.length q]; exact hn
  rw [List.append_nil] at st
  obtain ⟨w0, hw0, hs0⟩ := s1.rel.slot i _ e4
  rw [hv0] at hw0
  cases hw0
  obtain ⟨l, ks, rfl, hl, gl, hk⟩ := hs0
  -- what the call owned is the slot's dict
  have own_iff : ∀ b, Own ((V.ref l :: ws).map some) ((SV.odic true kvs :: os).map some) b → b = l := fun b ⟨j, sv, e, w, f⟩ => by
    cases j with
    | zero => cases f; rfl
    | succ j => exact absurd (show Own (ws.map some) (os.map some) b from ⟨j, sv, e, w, f⟩) (own_none q)
  have own_l : Own σ en1 l := ⟨i, _, e4, rfl, hv0⟩
  have keepOwn : ∀ b, Own σ en1 b → G' b = none := fun b hb => by
    have hb2 := s1.rel.own hb
    cases e : G' b with
    | none => rfl
    | some u =>
      rcases st.fresh b (by rw [e]; exact Option.some_ne_none _) with z | z | z
      · exact absurd hb2.2 z
      · exact absurd z hb2.1
      · obtain rfl := own_iff b z
        obtain ⟨_, kvs2, e2⟩ := st.prot 0 kvs rfl
        obtain ⟨w0, hw0, hs0⟩ := st.rel.slot 0 _ e2
        cases hw0
        obtain ⟨l2, ks2, e3, _, g2, _⟩ := hs0
        cases e3
        rw [g2] at e; cases e
  obtain ⟨_, kvs2, e2⟩ := st.prot 0 kvs rfl
  obtain ⟨w1, hw1, hs1⟩ := st.rel.slot 0 _ e2
  cases hw1
  have ek : kvs2 = kvs' := by
    cases svs' with
    | nil => cases h3
    | cons s0 r0 =>
      cases e2
      cases h3
      rfl
  subst ek
  have st2 : Stp X.K σ G1 H1 en1 σ G' H' (en1.set i (some (.odic pf kvs2))) := by
    refine ⟨⟨st.rel.gh, by rw [List.length_set]; exact s1.rel.len, fun j sv e => ?_, fun j m sv sv' v e1 e2 w1 w2 f1 f2 => ?_⟩, st.ex, fun b o hb no => st.frame b o hb fun z => no (own_iff b z ▸ own_l), st.live, fun b hb => ?_, fun b ⟨j, sv, e, w, f⟩ => .inl ?_, fun j kv e => ⟨rfl, ?_⟩⟩
    · rcases set_get e with ⟨rfl, z⟩ | ⟨ne, e⟩
      · cases z
        exact ⟨_, hv0, hs1⟩
      · obtain ⟨v, hv, hs⟩ := s1.rel.slot j sv e
        refine ⟨v, hv, hs.carry st.ex fun b u w ev hb gb => ⟨st.frame b u hb fun z => ?_, keepOwn b ⟨j, sv, e, w, ev ▸ hv⟩⟩⟩
        obtain rfl := own_iff b z
        subst ev
        exact ne (s1.rel.sep j i sv _ _ e e4 w rfl hv hv0)
    · have back : ∀ (j : Nat) (sv : SV), (en1.set i (some (SV.odic pf kvs2)))[j]? = some (some sv) → ownB sv = true → ∃ sv0, en1[j]? = some (some sv0) ∧ ownB sv0 = true := fun j sv e w => by
        rcases set_get e with ⟨rfl, z⟩ | ⟨_, e⟩
        · exact ⟨_, e4, rfl⟩
        · exact ⟨sv, e, w⟩
      obtain ⟨a1, b1, c1⟩ := back j sv e1 w1
      obtain ⟨a2, b2, c2⟩ := back m sv' e2 w2
      exact s1.rel.sep j m a1 a2 v b1 b2 c1 c2 f1 f2
    · rcases st.fresh b hb with z | z | z
      · exact .inl z
      · exact .inr (.inl z)
      · exact .inr (.inr (own_iff b z ▸ own_l))
    · rcases set_get e with ⟨rfl, z⟩ | ⟨_, e⟩
      · exact ⟨_, _, e4, rfl, f⟩
      · exact ⟨j, sv, e, w, f⟩
    · by_cases z : i = j
      · subst z
        rw [e4] at e
        cases e
        exact ⟨kvs2, by rw [List.getElem?_set_self (List.getElem?_eq_some_iff.mp e4).1]⟩
      · exact ⟨kv, by rw [List.getElem?_set_ne z]; exact e⟩
  exact k v G' H' (s1.trans st2) r
end
end Pf

namespace Pf
open PySem L2

/-! #### targets -/
def setS (i : Nat) (sv : SV) (en : En) : Option En :=
  match en[i]? with
  | none => none
  | some (some (.odic true _)) => none
  | some _ => some (en.set i (some sv))
theorem setS_ok {i : Nat} {sv : SV} {en en' : En} (h : setS i sv en = some en') : i < en.length ∧ en' = en.set i (some sv) ∧ ∀ kvs, en[i]? ≠ some (some (.odic true kvs)) := by
  unfold setS at h
  split at h
  · cases h
  · cases h
  · rename_i o hn e
    cases h
    refine ⟨(List.getElem?_eq_some_iff.mp e).1, rfl, fun kvs z => ?_⟩
    rw [e] at z
    cases z
    exact hn kvs rfl
/-- a slot gets a value -/
theorem Stp.assign {K : PySem.W.Frag} {G H : Hp} {σ : L2.St} {en en' : En} {i : Nat} {v : V} {sv : SV} (R : Rel K G H σ en) (hv : VR K G v sv) (h : setS i sv en = some en') : Stp K σ G H en (σ.set i (some v)) G H en' := by
  obtain ⟨hl, rfl, hp⟩ := setS_ok h
  have hn := hv.not_own
  refine ⟨⟨R.gh, by rw [List.length_set, List.length_set]; exact R.len, fun j s e => ?_, fun j l s s' w e1 e2 w1 w2 f1 f2 => ?_⟩, Ex.refl G, fun _ _ h _ => h, fun _ h => h, fun _ h => .inl h, fun b ⟨j, s, e, w, f⟩ => .inl ?_, fun j kvs e => ?_⟩
  · rcases set_get e with ⟨rfl, q⟩ | ⟨ne, e⟩
    · cases q
      exact ⟨v, List.getElem?_set_self (by rw [← R.len]; exact hl), hv.sr⟩
    · obtain ⟨w, hw, hs⟩ := R.slot j s e
      exact ⟨w, by rw [List.getElem?_set_ne (fun z => ne z.symm)]; exact hw, hs⟩
  · rcases set_get e1 with ⟨rfl, q⟩ | ⟨n1, e1⟩
    · cases q; rw [hn] at w1; cases w1
    · rcases set_get e2 with ⟨rfl, q⟩ | ⟨n2, e2⟩
      · cases q; rw [hn] at w2; cases w2
      · rw [List.getElem?_set_ne (fun z => n1 z.symm)] at f1
        rw [List.getElem?_set_ne (fun z => n2 z.symm)] at f2
        exact R.sep j l s s' w e1 e2 w1 w2 f1 f2
  · rcases set_get e with ⟨rfl, q⟩ | ⟨n1, e⟩
    · cases q; rw [hn] at w; cases w
    · rw [List.getElem?_set_ne (fun z => n1 z.symm)] at f
      exact ⟨j, s, e, w, f⟩
  · have ne : i ≠ j := by
      rintro rfl
      exact hp kvs e
    exact ⟨List.getElem?_set_ne ne, kvs, by rw [List.getElem?_set_ne ne]; exact e⟩
/-- what is walked gives; w: a pair of zip, of which only the items are known -/
def DR (w : Bool) (K : PySem.W.Frag) (G : Hp) (v : V) (d : D) : Prop := DP K G v d ∨ w = true ∧ ∃ a xs ds, v = .ref a ∧ d = .tuple ds ∧ SqT K G a xs ∧ DPs K G xs ds
theorem DR.strong {K : PySem.W.Frag} {G : Hp} {v : V} {d : D} (h : DR false K G v d) : DP K G v d := h.elim id fun z => by cases z.1
def tG (K : PySem.W.Frag) (w : Bool) (is : List Nat) (f : D → En → Option En) : TG := fun v σ H Q => ∃ G en d en', Rel K G H σ en ∧ DR w K G v d ∧ f d en = some en' ∧
  ∀ σ' G' H', Stp K σ G H en σ' G' H' en' → σ'.length = σ.length → (∀ i, i ∉ is → σ'[i]? = σ[i]?) → Q σ' H'
def tGs (K : PySem.W.Frag) (is : List Nat) (f : List D → En → Option En) : TGs := fun vs σ H Q => ∃ G en ds en', Rel K G H σ en ∧ DPs K G vs ds ∧ f ds en = some en' ∧
  ∀ σ' G' H', Stp K σ G H en σ' G' H' en' → σ'.length = σ.length → (∀ i, i ∉ is → σ'[i]? = σ[i]?) → Q σ' H'
theorem pg_weak {X : Cx} {e : Expr} {t t' : TG} (h : PG X e t) (w : ∀ v σ H Q, t' v σ H Q → t v σ H Q) : PG X e t' := ⟨fun pins s σ H v u Q I r q => h.run pins s σ H v u Q I r (w v σ H Q q)⟩
theorem pgs_weak {X : Cx} {es : List Expr} {t t' : TGs} (h : PGs X es t) (w : ∀ v σ H Q, t' v σ H Q → t v σ H Q) : PGs X es t' := ⟨fun pins s σ H v u Q I r q => h.run pins s σ H v u Q I r (w v σ H Q q)⟩
def gN (i : Nat) : D → En → Option En := fun d en => setS i (.dat d) en
def gT (f : List D → En → Option En) : D → En → Option En := fun d en => match d with
  | .tuple ds => f ds en
  | _ => none
def gs0 : List D → En → Option En := fun ds en => match ds with
  | [] => some en
  | _ => none
def gsC (f : D → En → Option En) (fr : List D → En → Option En) : List D → En → Option En := fun ds en => match ds with
  | d :: r => (f d en).bind fun en1 => fr r en1
  | [] => none
section
variable {X : Cx} {K : PySem.W.Frag} {e : Expr} {es : List Expr} {pos : Pos} {is js : List Nat} {f : D → En → Option En} {fr : List D → En → Option En}
theorem s_gN {i : Nat} (h : PG X e (gName i)) : PG X e (tG X.K false [i] (gN i)) := pg_weak h fun v σ H Q ⟨G, en, d, en', R, hd, hf, k⟩ => by
  exact k _ G H (Stp.assign R (show VR X.K G v (.dat d) from hd.strong) hf) List.length_set fun j hj => List.getElem?_set_ne fun z => hj (by rw [z]; exact List.mem_cons_self)
theorem s_gs0 : PGs X [] (tGs X.K [] gs0) := pgs_weak pgs_nil fun v σ H Q ⟨G, en, ds, en', R, hd, hf, k⟩ => by
  cases hd with
  | nil => cases hf; exact ⟨rfl, k σ G H (Stp.refl R) rfl fun _ _ => rfl⟩
  | cons _ _ => cases hf
theorem s_gsC (h1 : PG X e (tG X.K false is f)) (h2 : PGs X es (tGs X.K js fr)) (hs : (assignEach (e :: es) X.env).map (·.2) = assign e X.env :: (assignEach es X.env).map (·.2)) : PGs X (e :: es) (tGs X.K (is ++ js) (gsC f fr)) :=
  pgs_weak (pgs_cons h1 h2 hs) fun vs σ H Q ⟨G, en, ds, en', R, hd, hf, k⟩ => by
    cases hd with
    | nil => cases hf
    | cons r t =>
      obtain ⟨en1, h3, h4⟩ := Option.bind_eq_some_iff.mp hf
      refine ⟨_, _, rfl, G, en, _, en1, R, .inl r, h3, fun σ1 G1 H1 s1 l1 u1 => ⟨G1, en1, _, en', s1.rel, dps_ex s1.ex _ _ t, h4, fun σ2 G2 H2 s2 l2 u2 => ?_⟩⟩
      exact k σ2 G2 H2 (s1.trans s2) (l2.trans l1) fun i hi => (u2 i fun z => hi (List.mem_append_right _ z)).trans (u1 i fun z => hi (List.mem_append_left _ z))
def lenIs (n : Nat) (f : List D → En → Option En) : List D → En → Option En := fun ds en => if ds.length = n then f ds en else none
theorem s_gT {w : Bool} {k : Nat} {n : Nat} (hc : X.calm = true) (h : PGs X es (tGs X.K is fr)) (hn : (assignEach es X.env).length = n) (hst : (assignEach es X.env).findIdx? (·.1) = none) : PG X (.Tuple es k pos) (tG X.K w is (gT (lenIs n fr))) :=
  pg_weak (pg_tup hc h hn hst) fun v σ H Q ⟨G, en, d, en', R, hd, hf, k⟩ => by
    have go : ∀ a xs ds, v = .ref a → d = .tuple ds → SqT X.K G a xs → DPs X.K G xs ds → gTup X.K n (tGs X.K is fr) v σ H Q := fun a xs ds e1 e2 h1 h2 => by
      subst e1 e2
      have hf : lenIs n fr _ en = some en' := hf
      unfold lenIs at hf
      split at hf
      · rename_i hl
        exact ⟨_, _, rfl, seqT_gh R.gh h1, by rw [h2.length]; exact hl, G, en, _, en', R, h2, hf, k⟩
      · cases hf
    rcases hd with hd | ⟨_, a, xs, ds, e1, e2, h1, h2⟩
    · cases hd with
      | tup h1 h2 => exact go _ _ _ rfl rfl h1.sq h2
      | _ => cases hf
    · exact go a xs ds e1 e2 h1 h2
end

/-! #### what is walked -/
def ItOk (K : PySem.W.Frag) (w : Bool) (J : It) (G : Hp) (ds : List D) : Prop := ∀ G2 H2, Ex G G2 → GH G2 H2 → ∀ i : Nat,
  (∀ d, ds[i]? = some d → J.go i H2 ∧ ∀ x H3, J.yld i H2 x H3 → ∃ G3, Pst G2 H2 G3 H3 ∧ DR w K G3 x d) ∧ (ds.length ≤ i → J.stop i H2)
def tI (K : PySem.W.Frag) (w : Bool) (f : M (List D)) : TI := fun σ H R => ∃ G en ds en', Rel K G H σ en ∧ f en = some (ds, en') ∧ ∀ J G' H', Stp K σ G H en σ G' H' en' → ItOk K w J G' ds → R J H'
theorem pi_weak {X : Cx} {tg e : Expr} {t t' : TI} (h : PI X tg e t) (w : ∀ σ H R, t' σ H R → t σ H R) : PI X tg e t' := ⟨fun pins s σ H R I q => h.run pins s σ H R I (w σ H R q)⟩
section
variable {X : Cx} {K : PySem.W.Frag} {G : Hp} {a b : Expr} {tg : Expr} {pos : Pos}
theorem it_list {l : Addr} {vs : List V} {ds : List D} (h : G l = some (.lst vs)) (hd : DPs K G vs ds) : ItOk K false (Itl K l) G ds := fun G2 H2 ex gh i => by
  have hl : SqL K H2 l vs := SqL.of (gh.lst (ex _ _ h))
  refine ⟨fun d e => ?_, fun n => ⟨vs, hl, by rw [hd.length]; exact n⟩⟩
  obtain ⟨v, hv, r⟩ := hd.get e
  refine ⟨⟨vs, v, hl, hv⟩, fun x H3 y => ?_⟩
  obtain ⟨rfl, y⟩ := y
  have := y vs hl
  rw [hv] at this
  cases this
  exact ⟨G2, Pst.refl gh, .inl (dp_ex ex _ _ r)⟩
theorem it_tup {l : Addr} {vs : List V} {ds : List D} (h : SqT K G l vs) (hd : DPs K G vs ds) : ItOk K false (Itt K l) G ds := fun G2 H2 ex gh i => by
  have hl : SqT K H2 l vs := seqT_gh gh (seqT_ex ex h)
  refine ⟨fun d e => ?_, fun n => ⟨vs, hl, by rw [hd.length]; exact n⟩⟩
  obtain ⟨v, hv, r⟩ := hd.get e
  refine ⟨⟨vs, v, hl, hv⟩, fun x H3 y => ?_⟩
  obtain ⟨rfl, y⟩ := y
  have := y vs hl
  rw [hv] at this
  cases this
  exact ⟨G2, Pst.refl gh, .inl (dp_ex ex _ _ r)⟩
def rngD (lo : Int) (n : Nat) : List D := (List.range n).map fun i : Nat => PyData.int (lo + (i : Int))
theorem rngD_get {lo : Int} {n i : Nat} {d : D} (h : (rngD lo n)[i]? = some d) : i < n ∧ d = .int (lo + i) := by
  unfold rngD at h
  rw [List.getElem?_map] at h
  obtain ⟨j, h1, rfl⟩ := Option.map_eq_some_iff.mp h
  obtain ⟨h2, h3⟩ := List.getElem?_eq_some_iff.mp h1
  rw [List.length_range] at h2
  rw [List.getElem_range] at h3
  subst h3
  exact ⟨h2, rfl⟩
theorem rngD_len {lo : Int} {n : Nat} : (rngD lo n).length = n := by unfold rngD; rw [List.length_map, List.length_range]
theorem it_rng {lo : Int} {n : Nat} : ItOk K false (Itr lo n) G (rngD lo n) := fun G2 H2 ex gh i => by
  refine ⟨fun d e => ?_, fun h => by rw [rngD_len] at h; exact h⟩
  obtain ⟨h1, rfl⟩ := rngD_get e
  exact ⟨h1, fun x H3 y => by
    obtain ⟨rfl, rfl⟩ := y
    exact ⟨G2, Pst.refl gh, .inl (.int _)⟩⟩
def zipD (xs ys : List D) : List D := (xs.zip ys).map fun p => PyData.tuple [p.1, p.2]
theorem zipD_get {xs ys : List D} {i : Nat} {d : D} (h : (zipD xs ys)[i]? = some d) : ∃ x y, xs[i]? = some x ∧ ys[i]? = some y ∧ d = .tuple [x, y] := by
  unfold zipD at h
  rw [List.getElem?_map] at h
  obtain ⟨⟨x, y⟩, h1, rfl⟩ := Option.map_eq_some_iff.mp h
  obtain ⟨h2, h3⟩ := List.getElem?_zip_eq_some.mp h1
  exact ⟨x, y, h2, h3, rfl⟩
theorem zipD_len {xs ys : List D} : (zipD xs ys).length = min xs.length ys.length := by unfold zipD; rw [List.length_map, List.length_zip]
theorem it_zipL {l m : Addr} {vs ws : List V} {xs ys : List D} (h : G l = some (.lst vs)) (h' : G m = some (.lst ws)) (hx : DPs K G vs xs) (hy : DPs K G ws ys) : ItOk K true (Itz K l m) G (zipD xs ys) := fun G2 H2 ex gh i => by
  have hl : SqL K H2 l vs := SqL.of (gh.lst (ex _ _ h))
  have hm : SqL K H2 m ws := SqL.of (gh.lst (ex _ _ h'))
  refine ⟨fun d e => ?_, fun n => ⟨vs, ws, hl, hm, ?_⟩⟩
  · obtain ⟨x, y, e1, e2, rfl⟩ := zipD_get e
    obtain ⟨v, hv, r⟩ := hx.get e1
    obtain ⟨w, hw, r'⟩ := hy.get e2
    refine ⟨⟨vs, ws, v, w, hl, hm, hv, hw⟩, fun z H3 q => ?_⟩
    obtain ⟨T, v', w', rfl, nT, rfl, f1, f2⟩ := q
    have i1 := (f1 vs hl).symm.trans hv
    have i2 := (f2 ws hm).symm.trans hw
    cases i1; cases i2
    have ps : Pst G2 H2 (upd G2 T (.tup [v, w])) (upd H2 T (.tup [v, w])) := Pst.new gh nT
    exact ⟨_, ps, .inr ⟨rfl, T, _, _, rfl, rfl, SqT.of upd_same, .cons (dp_ex (ex.trans ps.ex) _ _ r) (.cons (dp_ex (ex.trans ps.ex) _ _ r') .nil)⟩⟩
  · rw [zipD_len] at n
    rw [hx.length, hy.length]
    omega
theorem it_zipT {l m : Addr} {vs ws : List V} {xs ys : List D} (h : SqT K G l vs) (h' : SqT K G m ws) (hx : DPs K G vs xs) (hy : DPs K G ws ys) : ItOk K true (RZ.ItzT K l m) G (zipD xs ys) := fun G2 H2 ex gh i => by
  have hl : SqT K H2 l vs := seqT_gh gh (seqT_ex ex h)
  have hm : SqT K H2 m ws := seqT_gh gh (seqT_ex ex h')
  refine ⟨fun d e => ?_, fun n => ⟨vs, ws, hl, hm, ?_⟩⟩
  · obtain ⟨x, y, e1, e2, rfl⟩ := zipD_get e
    obtain ⟨v, hv, r⟩ := hx.get e1
    obtain ⟨w, hw, r'⟩ := hy.get e2
    refine ⟨⟨vs, ws, v, w, hl, hm, hv, hw⟩, fun z H3 q => ?_⟩
    obtain ⟨T, v', w', rfl, nT, rfl, f1, f2⟩ := q
    have i1 := (f1 vs hl).symm.trans hv
    have i2 := (f2 ws hm).symm.trans hw
    cases i1; cases i2
    have ps : Pst G2 H2 (upd G2 T (.tup [v, w])) (upd H2 T (.tup [v, w])) := Pst.new gh nT
    exact ⟨_, ps, .inr ⟨rfl, T, _, _, rfl, rfl, SqT.of upd_same, .cons (dp_ex (ex.trans ps.ex) _ _ r) (.cons (dp_ex (ex.trans ps.ex) _ _ r') .nil)⟩⟩
  · rw [zipD_len] at n
    rw [hx.length, hy.length]
    omega
/-- a list or tuple walked -/
def fSeq (h : M SV) : M (List D) := fun en => (h en).bind fun p => (datS p.1).bind fun d => (seqV d).bind fun ds => some (ds, p.2)
theorem s_seq {h : M SV} (ha : PE X a (tE X.K h)) : PI X tg a (tI X.K false (fSeq h)) := ⟨fun pins s σ H R I ⟨G, en, ds, en', RR, hf, k⟩ => by
  obtain ⟨⟨sv, en1⟩, h1, hf⟩ := Option.bind_eq_some_iff.mp hf
  obtain ⟨d, h2, hf⟩ := Option.bind_eq_some_iff.mp hf
  obtain ⟨ds', h3, hf⟩ := Option.bind_eq_some_iff.mp hf
  cases hf
  have z := datS_ok h2
  rcases seqV_ok h3 with q | q
  · refine (pi_list (tg := tg) ha).run pins s σ H R I ⟨G, en, sv, _, RR, h1, fun v G' H' st r => ?_⟩
    have z' : sv = .dat (.list ds) := by rw [← q]; exact z
    subst z'
    cases (show DP X.K G' v (.list ds) from r) with
    | lst g1 g2 => exact ⟨_, rfl, ⟨_, SqL.of (st.rel.gh.lst g1)⟩, k _ G' H' st (it_list g1 g2)⟩
  · refine (pi_tup (tg := tg) ha).run pins s σ H R I ⟨G, en, sv, _, RR, h1, fun v G' H' st r => ?_⟩
    have z' : sv = .dat (.tuple ds) := by rw [← q]; exact z
    subst z'
    cases (show DP X.K G' v (.tuple ds) from r) with
    | tup g1 g2 => exact ⟨_, rfl, ⟨_, seqT_gh st.rel.gh g1.sq⟩, k _ G' H' st (it_tup g1.sq g2)⟩⟩
variable {fr : M (List Op)} {p : Pos}
def int1 : List D → Option Int
  | [.int j] => some j
  | _ => none
def int2 : List D → Option (Int × Int)
  | [.int i, .int j] => some (i, j)
  | _ => none
theorem int1_ok {j : Int} : ∀ {ds : List D}, int1 ds = some j → ds = [.int j]
  | [.int _], h => by cases h; rfl
  | [], h => by cases h
  | [.none], h => by cases h
  | [.bool _], h => by cases h
  | [.str _], h => by cases h
  | [.list _], h => by cases h
  | [.tuple _], h => by cases h
  | [.dict _], h => by cases h
  | d :: _ :: _, h => by cases d <;> cases h
theorem int2_ok {q : Int × Int} {ds : List D} (h : int2 ds = some q) : ds = [.int q.1, .int q.2] := by
  unfold int2 at h
  split at h
  · cases h; rfl
  · cases h
def fRng1 (fr : M (List Op)) : M (List D) := fun en => (fr en).bind fun p => (rsAll p.1 p.2).bind fun ds => (int1 ds).bind fun j => if -1000000 ≤ j ∧ j ≤ 1000000 then some (rngD 0 j.toNat, p.2) else none
def fRng2 (fr : M (List Op)) : M (List D) := fun en => (fr en).bind fun p => (rsAll p.1 p.2).bind fun ds => (int2 ds).bind fun q => if -1000000 ≤ q.1 ∧ q.1 ≤ 1000000 ∧ -1000000 ≤ q.2 ∧ q.2 ≤ 1000000 then some (rngD q.1 (q.2 - q.1).toNat, p.2) else none
theorem s_rng1 {x : Str} (hx : x = "range") (hg : Gl X x) (hm : X.mg x = none) (ha : PA X [a] (tOs X.K fr)) (hs : starEach [a] X.env = [(false, eval a X.env)]) : PI X tg (.Call (.Name x p) [a] [] pos) (tI X.K false (fRng1 fr)) := by
  subst hx
  refine pi_weak (pi_range1 hg hm ha hs) fun σ H R ⟨G, en, ds, en', RR, hf, k⟩ => ?_
  obtain ⟨⟨os, en1⟩, h1, hf⟩ := Option.bind_eq_some_iff.mp hf
  obtain ⟨dd, h2, hf⟩ := Option.bind_eq_some_iff.mp hf
  obtain ⟨j, h3, hf⟩ := Option.bind_eq_some_iff.mp hf
  split at hf
  · rename_i hl
    cases hf
    have z := int1_ok h3
    subst z
    refine ⟨G, en, os, _, RR, h1, fun vs G' H' st q => ?_⟩
    obtain ⟨v, rfl, hv⟩ := (rsAll_ok st.rel q h2).one
    exact ⟨j, by rw [hv.int], by omega, by omega, k _ G' H' st it_rng⟩
  · cases hf
theorem s_rng2 {x : Str} (hx : x = "range") (hg : Gl X x) (hm : X.mg x = none) (ha : PA X [a, b] (tOs X.K fr)) (hs : starEach [a, b] X.env = [(false, eval a X.env), (false, eval b X.env)]) (hs2 : starEach [b] X.env = [(false, eval b X.env)]) :
    PI X tg (.Call (.Name x p) [a, b] [] pos) (tI X.K false (fRng2 fr)) := by
  subst hx
  refine pi_weak (pi_range2 hg hm ha hs hs2) fun σ H R ⟨G, en, ds, en', RR, hf, k⟩ => ?_
  obtain ⟨⟨os, en1⟩, h1, hf⟩ := Option.bind_eq_some_iff.mp hf
  obtain ⟨dd, h2, hf⟩ := Option.bind_eq_some_iff.mp hf
  obtain ⟨j, h3, hf⟩ := Option.bind_eq_some_iff.mp hf
  split at hf
  · rename_i hl
    cases hf
    have z := int2_ok h3
    subst z
    refine ⟨G, en, os, _, RR, h1, fun vs G' H' st q => ?_⟩
    obtain ⟨v, w, rfl, hv, hw⟩ := (rsAll_ok st.rel q h2).two
    exact ⟨j.1, j.2, by rw [hv.int, hw.int], ⟨by omega, by omega, by omega, by omega⟩, k _ G' H' st it_rng⟩
  · cases hf
/-- zip of two lists, of two tuples -/
def zipV : List SV → Option (List D)
  | [.dat (.list xs), .dat (.list ys)] => some (zipD xs ys)
  | [.dat (.tuple xs), .dat (.tuple ys)] => some (zipD xs ys)
  | _ => none
def fZip (fr : M (List SV)) : M (List D) := fun en => (fr en).bind fun p => (zipV p.1).bind fun ds => some (ds, p.2)
theorem s_zip {fv : M (List SV)} {x : Str} {elts : List Expr} {kk : Nat} {tpos : Pos} (hx : x = "zip") (hg : Gl X x) (hm : X.mg x = none) (ha : PA X [a, b] (tVs X.K fv)) (hs : starEach [a, b] X.env = (false, eval a X.env) :: starEach [b] X.env) (hpl : (backTo pos (starEach [b] X.env)).any (·.1) = false) :
    PI X (.Tuple elts kk tpos) (.Call (.Name x p) [a, b] [] pos) (tI X.K true (fZip fv)) := by
  subst hx
  refine pi_weak (RZ.pi_zipA hg hm ha hs hpl) fun σ H R ⟨G, en, ds, en', RR, hf, k⟩ => ?_
  obtain ⟨⟨os, en1⟩, h1, hf⟩ := Option.bind_eq_some_iff.mp hf
  obtain ⟨dd, h2, hf⟩ := Option.bind_eq_some_iff.mp hf
  cases hf
  refine ⟨G, en, os, _, RR, h1, fun vs G' H' st q => ?_⟩
  unfold zipV at h2
  split at h2
  · rename_i xs ys e
    cases h2
    have e : os = [.dat (.list xs), .dat (.list ys)] := e
    subst e
    cases q with
    | cons r1 q =>
      cases q with
      | cons r2 q =>
        cases q
        cases (show DP X.K G' _ (.list xs) from r1) with
        | lst g1 g2 =>
          cases (show DP X.K G' _ (.list ys) from r2) with
          | lst g3 g4 => exact ⟨_, _, _, _, rfl, .inl ⟨SqL.of (st.rel.gh.lst g1), SqL.of (st.rel.gh.lst g3), k _ G' H' st (it_zipL g1 g3 g2 g4)⟩⟩
  · rename_i xs ys e
    cases h2
    have e : os = [.dat (.tuple xs), .dat (.tuple ys)] := e
    subst e
    cases q with
    | cons r1 q =>
      cases q with
      | cons r2 q =>
        cases q
        cases (show DP X.K G' _ (.tuple xs) from r1) with
        | tup g1 g2 =>
          cases (show DP X.K G' _ (.tuple ys) from r2) with
          | tup g3 g4 => exact ⟨_, _, _, _, rfl, .inr ⟨seqT_gh st.rel.gh g1.sq, seqT_gh st.rel.gh g3.sq, k _ G' H' st (it_zipT g1.sq g3.sq g2 g4)⟩⟩
  · cases h2
end
end Pf

namespace Pf
open PySem L2

/-! #### a block's own names -/
def wipeE (en : En) : List Nat → En
  | [] => en
  | v :: vs => (wipeE en vs).set v none
def unwipe (en0 en1 : En) : List Nat → En
  | [] => en1
  | v :: vs => (unwipe en0 en1 vs).set v (en0.getD v none)
theorem wipeE_len (en : En) : ∀ vs : List Nat, (wipeE en vs).length = en.length
  | [] => rfl
  | v :: vs => by unfold wipeE; rw [List.length_set, wipeE_len en vs]
theorem unwipe_len (en0 en1 : En) : ∀ vs : List Nat, (unwipe en0 en1 vs).length = en1.length
  | [] => rfl
  | v :: vs => by unfold unwipe; rw [List.length_set, unwipe_len en0 en1 vs]
theorem wipeE_some {en : En} {i : Nat} {s : SV} : ∀ {vs : List Nat}, (wipeE en vs)[i]? = some (some s) → en[i]? = some (some s) ∧ i ∉ vs
  | [], h => ⟨h, List.not_mem_nil⟩
  | v :: vs, h => by
    unfold wipeE at h
    rcases set_get h with ⟨_, q⟩ | ⟨ne, h⟩
    · cases q
    · obtain ⟨h1, h2⟩ := wipeE_some h
      exact ⟨h1, fun m => (List.mem_cons.mp m).elim ne h2⟩
theorem wipeE_out {en : En} {i : Nat} : ∀ {vs : List Nat}, i ∉ vs → (wipeE en vs)[i]? = en[i]?
  | [], _ => rfl
  | v :: vs, h => by
    unfold wipeE
    rw [List.getElem?_set_ne fun e => h (by rw [e]; exact List.mem_cons_self)]
    exact wipeE_out fun m => h (List.mem_cons_of_mem _ m)
theorem wipe_in {σ : L2.St} {i : Nat} : ∀ {vs : List Nat}, i ∈ vs → i < σ.length → (wipe σ vs)[i]? = some none
  | v :: vs, h, hl => by
    unfold wipe
    by_cases e : v = i
    · subst e
      rw [List.getElem?_set_self (by rw [wipe_length]; exact hl)]
    · rw [List.getElem?_set_ne e]
      exact wipe_in ((List.mem_cons.mp h).resolve_left fun z => e z.symm) hl
theorem wipe_eq {σ σ2 : L2.St} {vs : List Nat} (hl : σ2.length = σ.length) (h : ∀ i, i ∉ vs → σ2[i]? = σ[i]?) : wipe σ2 vs = wipe σ vs := by
  apply List.ext_getElem?
  intro i
  by_cases hi : i ∈ vs
  · by_cases hl2 : i < σ.length
    · rw [wipe_in hi hl2, wipe_in hi (by rw [hl]; exact hl2)]
    · rw [List.getElem?_eq_none (by rw [wipe_length, hl]; omega), List.getElem?_eq_none (by rw [wipe_length]; omega)]
  · rw [wipe_out hi, wipe_out hi]
    exact h i hi
theorem unwipe_out {en0 en1 : En} {i : Nat} : ∀ {vs : List Nat}, i ∉ vs → (unwipe en0 en1 vs)[i]? = en1[i]?
  | [], _ => rfl
  | v :: vs, h => by
    unfold unwipe
    rw [List.getElem?_set_ne fun e => h (by rw [e]; exact List.mem_cons_self)]
    exact unwipe_out fun m => h (List.mem_cons_of_mem _ m)
theorem unwipe_in {en0 en1 : En} {i : Nat} : ∀ {vs : List Nat}, i ∈ vs → i < en1.length → (unwipe en0 en1 vs)[i]? = some (en0.getD i none)
  | v :: vs, h, hl => by
    unfold unwipe
    by_cases e : v = i
    · subst e
      rw [List.getElem?_set_self (by rw [unwipe_len]; exact hl)]
    · rw [List.getElem?_set_ne e]
      exact unwipe_in ((List.mem_cons.mp h).resolve_left fun z => e z.symm) hl
/-- a slot of the restored -/
theorem unwipe_some {en0 en1 : En} {i : Nat} {s : SV} {vs : List Nat} (h : (unwipe en0 en1 vs)[i]? = some (some s)) : (i ∈ vs ∧ en0[i]? = some (some s)) ∨ (i ∉ vs ∧ en1[i]? = some (some s)) := by
  by_cases hi : i ∈ vs
  · by_cases hl : i < en1.length
    · rw [unwipe_in hi hl] at h
      refine .inl ⟨hi, ?_⟩
      have h' : en0.getD i none = some s := Option.some.inj h
      rw [List.getD_eq_getElem?_getD] at h'
      cases e : en0[i]? with
      | none => rw [e] at h'; cases h'
      | some o => rw [e] at h'; exact congrArg some h'
    · rw [List.getElem?_eq_none (by rw [unwipe_len]; omega)] at h
      cases h
  · exact .inr ⟨hi, by rw [← unwipe_out (en0 := en0) hi]; exact h⟩
section
variable {K : PySem.W.Frag} {σ σ2 : L2.St} {G G1 G2 H H1 H2 : Hp} {en en1 en2 : En} {vs : List Nat}
theorem Rel.wipe (R : Rel K G H σ en) (vs : List Nat) : Rel K G H (wipe σ vs) (wipeE en vs) where
  gh := R.gh
  len := by rw [wipeE_len, wipe_length]; exact R.len
  slot := fun i sv e => by
    obtain ⟨e1, n⟩ := wipeE_some e
    obtain ⟨v, hv, hs⟩ := R.slot i sv e1
    exact ⟨v, by rw [wipe_out n]; exact hv, hs⟩
  sep := fun i j s s' v e1 e2 w1 w2 f1 f2 => by
    obtain ⟨e1, n1⟩ := wipeE_some e1
    obtain ⟨e2, n2⟩ := wipeE_some e2
    rw [wipe_out n1] at f1
    rw [wipe_out n2] at f2
    exact R.sep i j s s' v e1 e2 w1 w2 f1 f2
theorem own_wipe {b : Addr} (h : Own (wipe σ vs) (wipeE en vs) b) : Own σ en b := by
  obtain ⟨i, s, e, w, f⟩ := h
  obtain ⟨e1, n⟩ := wipeE_some e
  rw [wipe_out n] at f
  exact ⟨i, s, e1, w, f⟩
/-- behind a turn: the own names are forgotten; the list L that no slot has may have grown -/
theorem Stp.turn {σ0 : L2.St} {en0 : En} (S : Stp K (L2.wipe σ0 vs) G1 H1 (wipeE en0 vs) σ2 G2 H2 en2) (hw : L2.wipe σ2 vs = L2.wipe σ0 vs) {L : Addr} {o o' : HO} (h1 : H1 L = none) (h2 : H2 L = some o') (g2 : G2 L = none) (no : ¬ Own σ2 en2 L) :
    Stp K (L2.wipe σ0 vs) G1 H1 (wipeE en0 vs) (L2.wipe σ0 vs) G2 (upd H2 L o) (wipeE en2 vs) ∧ ¬ Own (L2.wipe σ0 vs) (wipeE en2 vs) L := by
  have R := S.rel.wipe vs
  rw [hw] at R
  have no2 : ¬ Own (L2.wipe σ0 vs) (wipeE en2 vs) L := fun z => no (own_wipe (by rw [hw]; exact z))
  refine ⟨⟨⟨R.gh.write g2, R.len, fun i sv e => ?_, R.sep⟩, S.ex, fun b u hb n => ?_, fun b hb => ?_, S.fresh, fun b z => S.sub b (own_wipe (by rw [hw]; exact z)), fun i kvs e => ?_⟩, no2⟩
  · obtain ⟨v, hv, hs⟩ := R.slot i sv e
    refine ⟨v, hv, hs.carry (Ex.refl _) fun a u w ev ha ga => ⟨?_, ga⟩⟩
    rw [upd_ne]
    · exact ha
    · rintro rfl
      subst ev
      exact no2 ⟨i, sv, e, w, hv⟩
  · rw [upd_ne (ne_of_none hb h1)]
    exact S.frame b u hb n
  · by_cases z : b = L
    · subst z; rw [upd_same]; exact Option.some_ne_none _
    · rw [upd_ne z]; exact S.live b hb
  · obtain ⟨e0, n⟩ := wipeE_some e
    obtain ⟨_, kv, f⟩ := S.prot i kvs e
    exact ⟨rfl, kv, by rw [wipeE_out n]; exact f⟩
/-- .. the loop is over: the own names stand as ahead of it -/
theorem Stp.leave (R1 : Rel K G1 H1 σ en1) (S : Stp K (L2.wipe σ vs) G1 H1 (wipeE en1 vs) (L2.wipe σ vs) G2 H2 en2) : Stp K σ G1 H1 en1 σ G2 H2 (unwipe en1 en2 vs) := by
  -- an own address of a hidden slot
  have hid : ∀ (i : Nat) (sv : SV) (a : Addr), i ∈ vs → en1[i]? = some (some sv) → ownB sv = true → σ[i]? = some (some (V.ref a)) → ¬ Own (L2.wipe σ vs) (wipeE en1 vs) a := fun i sv a hi e w f ⟨j, s, e', w', f'⟩ => by
    obtain ⟨e1, n⟩ := wipeE_some e'
    rw [wipe_out n] at f'
    exact n (R1.sep j i s sv _ e1 e w' w f' f ▸ hi)
  have carry : ∀ (i : Nat) (sv : SV) (v : V), i ∈ vs → en1[i]? = some (some sv) → σ[i]? = some (some v) → SR K G1 H1 v sv → SR K G2 H2 v sv := fun i sv v hi e f hs =>
    hs.carry S.ex fun a u w ev ha ga => by
      subst ev
      have n := hid i sv a hi e w f
      refine ⟨S.frame a u ha n, ?_⟩
      cases q : G2 a with
      | none => rfl
      | some u' =>
        rcases S.fresh a (by rw [q]; exact Option.some_ne_none _) with z | z | z
        · exact absurd ga z
        · rw [z] at ha; cases ha
        · exact absurd z n
  refine ⟨⟨S.rel.gh, by rw [unwipe_len]; have := S.rel.len; rw [wipe_length] at this; exact this, fun i sv e => ?_, fun i j s s' v e1 e2 w1 w2 f1 f2 => ?_⟩, S.ex, fun b o hb n => S.frame b o hb fun z => n (own_wipe z), S.live, fun b hb => (S.fresh b hb).imp id fun z => z.imp id own_wipe, fun b ⟨i, s, e, w, f⟩ => ?_, fun i kvs e => ⟨rfl, ?_⟩⟩
  · rcases unwipe_some e with ⟨hi, e⟩ | ⟨hi, e⟩
    · obtain ⟨v, hv, hs⟩ := R1.slot i sv e
      exact ⟨v, hv, carry i sv v hi e hv hs⟩
    · obtain ⟨v, hv, hs⟩ := S.rel.slot i sv e
      rw [wipe_out hi] at hv
      exact ⟨v, hv, hs⟩
  · have mixed : ∀ (i j : Nat) (s s' : SV), i ∈ vs → en1[i]? = some (some s) → ownB s = true → j ∉ vs → en2[j]? = some (some s') → ownB s' = true → σ[i]? = some (some v) → σ[j]? = some (some v) → False := fun i j s s' hi e1 w1 hj e2 w2 f1 f2 => by
      obtain ⟨v', hv', hs'⟩ := R1.slot i s e1
      rw [f1] at hv'
      cases hv'
      obtain ⟨a, rfl, ha, ga⟩ := hs'.own_at w1
      rcases S.sub a ⟨j, s', e2, w2, by rw [wipe_out hj]; exact f2⟩ with z | z
      · exact hid i s a hi e1 w1 f1 z
      · exact ha z
    rcases unwipe_some e1 with ⟨hi, e1⟩ | ⟨hi, e1⟩
    · rcases unwipe_some e2 with ⟨hj, e2⟩ | ⟨hj, e2⟩
      · exact R1.sep i j s s' v e1 e2 w1 w2 f1 f2
      · exact (mixed i j s s' hi e1 w1 hj e2 w2 f1 f2).elim
    · rcases unwipe_some e2 with ⟨hj, e2⟩ | ⟨hj, e2⟩
      · exact (mixed j i s' s hj e2 w2 hi e1 w1 f2 f1).elim
      · exact S.rel.sep i j s s' v e1 e2 w1 w2 (by rw [wipe_out hi]; exact f1) (by rw [wipe_out hj]; exact f2)
  · rcases unwipe_some e with ⟨hi, e⟩ | ⟨hi, e⟩
    · exact .inl ⟨i, s, e, w, f⟩
    · exact (S.sub b ⟨i, s, e, w, by rw [wipe_out hi]; exact f⟩).imp own_wipe id
  · by_cases hi : i ∈ vs
    · have hl : i < en2.length := by
        have a1 := S.rel.len
        rw [wipe_length, ← R1.len] at a1
        rw [a1]
        exact (List.getElem?_eq_some_iff.mp e).1
      refine ⟨kvs, ?_⟩
      rw [unwipe_in hi hl, List.getD_eq_getElem?_getD, e]
      rfl
    · obtain ⟨_, kv, f⟩ := S.prot i kvs (by rw [wipeE_out hi]; exact e)
      exact ⟨kv, by rw [unwipe_out hi]; exact f⟩
/-- a list that no slot has stays -/
theorem Stp.keepL {σ' : L2.St} (S : Stp K σ G1 H1 en1 σ' G2 H2 en2) {L : Addr} {o : HO} (h : H1 L = some o) (g : G1 L = none) (no : ¬ Own σ en1 L) : H2 L = some o ∧ G2 L = none ∧ ¬ Own σ' en2 L := by
  refine ⟨S.frame L o h no, ?_, fun z => (S.sub L z).elim no fun q => by rw [q] at h; cases h⟩
  cases q : G2 L with
  | none => rfl
  | some u =>
    rcases S.fresh L (by rw [q]; exact Option.some_ne_none _) with z | z | z
    · exact absurd g z
    · rw [z] at h; cases h
    · exact absurd z no
end

/-! #### [elt for tg in it if cond] -/
def cLoop (vs : List Nat) (bd : D → En → Option En) (cond : M Bool) (elt : M SV) : List D → En → Option (List D × En)
  | [], en => some ([], en)
  | d :: ds, en => (bd d en).bind fun en1 => (cond en1).bind fun c => if c.1 = true then (elt c.2).bind fun v => (datS v.1).bind fun x => (cLoop vs bd cond elt ds (wipeE v.2 vs)).bind fun r => some (x :: r.1, r.2)
    else cLoop vs bd cond elt ds (wipeE c.2 vs)
def fComp (vs : List Nat) (it : M (List D)) (bd : D → En → Option En) (cond : M Bool) (elt : M SV) : M (List D) := fun en => (it en).bind fun p => if p.1.length ≤ lim then (cLoop vs bd cond elt p.1 (wipeE p.2 vs)).bind fun q => some (q.1, unwipe p.2 q.2 vs) else none
theorem lc_read {K : PySem.W.Frag} {w : Bool} {vs is : List Nat} {it : M (List D)} {bd : D → En → Option En} {cond : M Bool} {elt : M SV} (hsub : ∀ i ∈ is, i ∈ vs) : ∀ σ H Q, tN K (fComp vs it bd cond elt) σ H Q → tLc (tI K w it) (tG K w is bd) (tT K cond) (tE K elt) vs σ H Q :=
  fun σ H Q ⟨G, en, dsr, en', R, hf, k⟩ => by
    obtain ⟨⟨ds, en1⟩, h1, hf⟩ := Option.bind_eq_some_iff.mp hf
    split at hf
    rotate_left
    · cases hf
    rename_i hlen
    obtain ⟨⟨acc, enf⟩, h2, hf⟩ := Option.bind_eq_some_iff.mp hf
    cases hf
    refine ⟨G, en, ds, en1, R, h1, fun J G1 H1 s1 ok => fun L hL => ?_⟩
    have R1 := s1.rel
    have Rw := R1.wipe vs
    refine ⟨fun i m Hc => m = ds.length - i ∧ i ≤ ds.length ∧ ∃ Gc enc av ad rest, Stp K (wipe σ vs) G1 H1 (wipeE en1 vs) (wipe σ vs) Gc Hc enc ∧ Hc L = some (.lst av) ∧ Gc L = none ∧ ¬ Own (wipe σ vs) enc L ∧ DPs K Gc av ad ∧ ad.length ≤ i ∧
      cLoop vs bd cond elt (ds.drop i) enc = some (rest, enf) ∧ acc = ad ++ rest, ⟨ds.length, rfl, Nat.zero_le _, G1, wipeE en1 vs, [], [], acc, (Pst.lay Rw.gh hL).stp Rw, upd_same, Rw.gh.free hL, fun z => (Rw.own z).1 hL, .nil, Nat.zero_le _, h2, rfl⟩, ?_⟩
    rintro i m Hc ⟨rfl, hi, Gc, enc, av, ad, rest, sc, hc, gc, no, hd, hal, hloop, hacc⟩
    obtain ⟨okI, okE⟩ := ok Gc Hc sc.ex sc.rel.gh i
    by_cases hlt : i < ds.length
    · obtain ⟨go, yl⟩ := okI ds[i] (List.getElem?_eq_getElem hlt)
      rw [List.drop_eq_getElem_cons hlt] at hloop
      obtain ⟨en2, hb, hloop⟩ := Option.bind_eq_some_iff.mp hloop
      obtain ⟨⟨c, en3⟩, hcn, hloop⟩ := Option.bind_eq_some_iff.mp hloop
      refine .inr ⟨go, fun H' => ds.length - (i + 1) = ds.length - (i + 1) ∧ i + 1 ≤ ds.length ∧ ∃ Gc enc av ad rest, Stp K (wipe σ vs) G1 H1 (wipeE en1 vs) (wipe σ vs) Gc H' enc ∧ H' L = some (.lst av) ∧ Gc L = none ∧ ¬ Own (wipe σ vs) enc L ∧ DPs K Gc av ad ∧ ad.length ≤ i + 1 ∧
        cLoop vs bd cond elt (ds.drop (i + 1)) enc = some (rest, enf) ∧ acc = ad ++ rest, fun H' w => ⟨_, by omega, w⟩, fun x H' y => ?_⟩
      obtain ⟨G3, ps, dx⟩ := yl x H' y
      have s2 := sc.trans (ps.stp sc.rel)
      obtain ⟨hL2, gL2, _⟩ := (ps.stp sc.rel).keepL hc gc no
      refine ⟨G3, enc, _, en2, s2.rel, dx, hb, fun σ2 G4 H4 s3 l3 u3 => ?_⟩
      obtain ⟨hL3, gL3, no3⟩ := s3.keepL hL2 gL2 no
      have hw : wipe σ2 vs = wipe σ vs := wipe_eq (by rw [l3, wipe_length]) fun j hj => by rw [u3 j fun z => hj (hsub j z), wipe_out hj]
      refine ⟨hw, G4, en2, c, en3, s3.rel, hcn, fun G5 H5 s4 => ?_⟩
      obtain ⟨hL4, gL4, no4⟩ := s4.keepL hL3 gL3 no3
      cases c with
      | false =>
        refine iteF ?_
        obtain ⟨st, no5⟩ := (s2.trans (s3.trans s4)).turn (o := .lst av) hw hL hL4 gL4 no4
        have eu : upd H5 L (.lst av) = H5 := by
          funext b
          by_cases z : b = L
          · subst z; rw [upd_same, hL4]
          · rw [upd_ne z]
        rw [eu] at st
        exact ⟨rfl, by omega, G5, _, av, ad, rest, st, hL4, gL4, no5, dps_ex (ps.ex.trans (s3.ex.trans s4.ex)) _ _ hd, by omega, hloop, hacc⟩
      | true =>
        refine iteT ?_
        rw [if_pos rfl] at hloop
        obtain ⟨⟨sv, en4⟩, he, hloop⟩ := Option.bind_eq_some_iff.mp hloop
        obtain ⟨dd, hdd, hloop⟩ := Option.bind_eq_some_iff.mp hloop
        obtain ⟨⟨rest2, enf2⟩, hl2, hloop⟩ := Option.bind_eq_some_iff.mp hloop
        cases hloop
        have z := datS_ok hdd
        subst z
        refine ⟨G5, en3, _, en4, s4.rel, he, fun v G6 H6 s5 r => ?_⟩
        obtain ⟨hL5, gL5, no5⟩ := s5.keepL hL4 gL4 no4
        obtain ⟨st, no6⟩ := (s2.trans (s3.trans (s4.trans s5))).turn (o := .lst (av ++ [v])) hw hL hL5 gL5 no5
        have hd2 := dps_ex (ps.ex.trans (s3.ex.trans (s4.ex.trans s5.ex))) _ _ hd
        refine ⟨av, hL5, ?_, rfl, by omega, G6, _, av ++ [v], ad ++ [dd], rest2, st, upd_same, gL5, no6, hd2.append (.cons r .nil), by rw [List.length_append]; show ad.length + 1 ≤ i + 1; omega, hl2, by rw [hacc, List.append_assoc]; rfl⟩
        rw [hd.length]
        exact Nat.lt_of_lt_of_le (Nat.lt_of_le_of_lt hal (Nat.lt_of_lt_of_le hlt hlen)) line_lim
    · have e : i = ds.length := by omega
      subst e
      rw [List.drop_length] at hloop
      cases hloop
      rw [List.append_nil] at hacc
      subst hacc
      have sl := s1.trans (Stp.leave R1 sc)
      refine .inl ⟨okE (Nat.le_refl _), k L av Gc Hc sl (free_of_live s1 hL) hc gc (fun ⟨j, s, e, w, f⟩ => ?_) hd⟩
      rcases unwipe_some e with ⟨hj, e⟩ | ⟨hj, e⟩
      · exact (R1.own ⟨j, s, e, w, f⟩).1 hL
      · exact no ⟨j, s, e, w, by rw [wipe_out hj]; exact f⟩
end Pf

namespace Pf
open PySem L2

/-! ### statements told by data -/
inductive Fl where
  | next | brk | cont | ret (d : D)
abbrev MS := En → Option (Fl × En)
def flS (K : PySem.W.Frag) (G' : Hp) (D : Ends) (σ' : L2.St) (H' : Hp) : Fl → Prop
  | .next => D.nx σ' H'
  | .brk => D.bk σ' H'
  | .cont => D.ct σ' H'
  | .ret d => ∀ v, DP K G' v d → D.rt v H'
def tS (K : PySem.W.Frag) (f : MS) : TS := fun D σ H => ∃ G en fl en', Rel K G H σ en ∧ f en = some (fl, en') ∧ ∀ σ' G' H', Stp K σ G H en σ' G' H' en' → flS K G' D σ' H' fl
theorem ps_weak {X : Cx} {e : Stmt} {t t' : TS} (h : PS X e t) (w : ∀ D σ H, t' D σ H → t D σ H) : PS X e t' := ⟨fun pins s σ H D I q => h.run pins s σ H D I (w D σ H q)⟩
theorem pss_weak {X : Cx} {e : List Stmt} {t t' : TS} (h : PSs X e t) (w : ∀ D σ H, t' D σ H → t D σ H) : PSs X e t' := ⟨fun pins s σ H D I q => h.run pins s σ H D I (w D σ H q)⟩
def fNext : MS := fun en => some (.next, en)
def aft (g : MS) (p : Fl × En) : Option (Fl × En) := match p.1 with
  | .next => g p.2
  | fl => some (fl, p.2)
def fSeq2 (f g : MS) : MS := fun en => (f en).bind (aft g)
section
variable {X : Cx} {K : PySem.W.Frag} {st : Stmt} {sts : List Stmt} {f g : MS} {a b e : Expr} {h : M SV} {pos : Pos} {fa fb : M Op}
theorem s_nil : PSs X [] (tS X.K fNext) := pss_weak pss_nil fun D σ H ⟨G, en, fl, en', R, hf, k⟩ => by
  cases hf
  exact k σ G H (Stp.refl R)
theorem s_cons (h1 : PS X st (tS X.K f)) (h2 : PSs X sts (tS X.K g)) : PSs X (st :: sts) (tS X.K (fSeq2 f g)) := pss_weak (pss_cons h1 h2) fun D σ H ⟨G, en, fl, en', R, hf, k⟩ => by
  obtain ⟨⟨fl1, en1⟩, h3, h4⟩ := Option.bind_eq_some_iff.mp hf
  refine ⟨G, en, fl1, en1, R, h3, fun σ1 G1 H1 s1 => ?_⟩
  cases fl1 with
  | next => exact ⟨G1, en1, fl, en', s1.rel, h4, fun σ' G' H' st => k σ' G' H' (s1.trans st)⟩
  | brk => cases h4; exact k σ1 G1 H1 s1
  | cont => cases h4; exact k σ1 G1 H1 s1
  | ret d => cases h4; exact k σ1 G1 H1 s1
def fRet (h : M SV) : MS := fun en => (h en).bind fun p => (datS p.1).bind fun d => some (.ret d, p.2)
theorem s_ret (ha : PE X e (tE X.K h)) : PS X (.Return (some e) pos) (tS X.K (fRet h)) := ps_weak (ps_ret ha) fun D σ H ⟨G, en, fl, en', R, hf, k⟩ => by
  obtain ⟨⟨sv, en1⟩, h3, hf⟩ := Option.bind_eq_some_iff.mp hf
  obtain ⟨d, h4, hf⟩ := Option.bind_eq_some_iff.mp hf
  cases hf
  have z := datS_ok h4
  refine ⟨G, en, sv, _, R, h3, fun v G' H' s r => ?_⟩
  have z' : sv = .dat d := z
  subst z'
  exact k σ G' H' s v r
def fIf (c : M Bool) (f g : MS) : MS := fun en => (c en).bind fun p => if p.1 = true then f p.2 else g p.2
theorem s_if {t : Expr} {c : M Bool} {xs ys : List Stmt} (ht : PT X t (tT X.K c)) (h1 : PSs X xs (tS X.K f)) (h2 : PSs X ys (tS X.K g)) : PS X (.If t xs ys pos) (tS X.K (fIf c f g)) :=
  ps_weak (ps_if ht h1 h2) fun D σ H ⟨G, en, fl, en', R, hf, k⟩ => by
    obtain ⟨⟨d, en1⟩, h3, hf⟩ := Option.bind_eq_some_iff.mp hf
    refine ⟨G, en, d, en1, R, h3, fun G1 H1 s1 => ?_⟩
    cases d with
    | true => exact iteT ⟨G1, en1, fl, en', s1.rel, hf, fun σ' G' H' st => k σ' G' H' (s1.trans st)⟩
    | false => exact iteF ⟨G1, en1, fl, en', s1.rel, hf, fun σ' G' H' st => k σ' G' H' (s1.trans st)⟩
theorem s_pass : PS X (.Pass pos) (tS X.K fNext) := ps_weak ps_pass fun D σ H ⟨G, en, fl, en', R, hf, k⟩ => by
  cases hf
  exact k σ G H (Stp.refl R)
theorem s_brk : PS X (.Break pos) (tS X.K fun en => some (.brk, en)) := ps_weak ps_break fun D σ H ⟨G, en, fl, en', R, hf, k⟩ => by
  cases hf
  exact k σ G H (Stp.refl R)
theorem s_cont : PS X (.Continue pos) (tS X.K fun en => some (.cont, en)) := ps_weak ps_continue fun D σ H ⟨G, en, fl, en', R, hf, k⟩ => by
  cases hf
  exact k σ G H (Stp.refl R)
def fDrop (h : M SV) : MS := fun en => (h en).bind fun p => some (.next, p.2)
theorem s_drop (ha : PE X e (tE X.K h)) (hs : swapsWith e none pos.line X.env = pure false) : PS X (.Expr e pos) (tS X.K (fDrop h)) := ps_weak (ps_expr ha hs) fun D σ H ⟨G, en, fl, en', R, hf, k⟩ => by
  obtain ⟨⟨sv, en1⟩, h3, hf⟩ := Option.bind_eq_some_iff.mp hf
  cases hf
  exact ⟨G, en, sv, _, R, h3, fun v G' H' s r => k σ G' H' s⟩

/-! #### assignments -/
def fAsg (i : Nat) (h : M SV) : MS := fun en => (h en).bind fun p => (setS i p.1 p.2).bind fun en2 => some (.next, en2)
theorem s_asg {i : Nat} {t : TE} (hp : PS X st (tAsg t (gName i))) (w : ∀ σ H Q, tE X.K h σ H Q → t σ H Q) : PS X st (tS X.K (fAsg i h)) := ps_weak hp fun D σ H ⟨G, en, fl, en', R, hf, k⟩ => by
  obtain ⟨⟨sv, en1⟩, h3, hf⟩ := Option.bind_eq_some_iff.mp hf
  obtain ⟨en2, h4, hf⟩ := Option.bind_eq_some_iff.mp hf
  cases hf
  exact w _ _ _ ⟨G, en, sv, en1, R, h3, fun v G' H' s r => k _ G' H' (s.trans (Stp.assign s.rel r h4))⟩
/-- a new list into a slot -/
theorem Stp.assignL {G0 H0 G H : Hp} {σ0 σ : L2.St} {en0 en en' : En} {i : Nat} {p : Addr} {vs : List V} {ds : List D} (s : Stp K σ0 G0 H0 en0 σ G H en) (h0 : H0 p = none) (hp : H p = some (.lst vs)) (gp : G p = none) (no : ¬ Own σ en p) (hd : DPs K G vs ds) (h : setS i (.olst ds) en = some en') :
    Stp K σ0 G0 H0 en0 (σ.set i (some (.ref p))) G H en' := by
  obtain ⟨hl, rfl, hpr⟩ := setS_ok h
  have R := s.rel
  have hlσ : i < σ.length := by rw [← R.len]; exact hl
  refine ⟨⟨R.gh, by rw [List.length_set, List.length_set]; exact R.len, fun j q e => ?_, fun j l q q' w e1 e2 w1 w2 f1 f2 => ?_⟩, s.ex, s.frame, s.live, s.fresh, fun b ⟨j, q, e, w, f⟩ => ?_, fun j kvs e => ?_⟩
  · rcases set_get e with ⟨rfl, z⟩ | ⟨ne, e⟩
    · cases z
      exact ⟨.ref p, List.getElem?_set_self hlσ, p, vs, rfl, hp, gp, hd⟩
    · obtain ⟨w, hw, hs⟩ := R.slot j q e
      exact ⟨w, by rw [List.getElem?_set_ne (fun z => ne z.symm)]; exact hw, hs⟩
  · have other : ∀ (j : Nat) (q : SV), j ≠ i → en[j]? = some (some q) → ownB q = true → (σ.set i (some (V.ref p)))[j]? = some (some w) → σ[j]? = some (some w) ∧ w ≠ .ref p := fun j q ne e w1 f => by
      rw [List.getElem?_set_ne (fun z => ne z.symm)] at f
      exact ⟨f, fun z => no ⟨j, q, e, w1, by rw [← z]; exact f⟩⟩
    rcases set_get e1 with ⟨z1, _⟩ | ⟨n1, a1⟩
    · rcases set_get e2 with ⟨z2, _⟩ | ⟨n2, a2⟩
      · rw [z1, z2]
      · rw [z1, List.getElem?_set_self hlσ] at f1
        cases f1
        exact absurd rfl (other l q' n2 a2 w2 f2).2
    · rcases set_get e2 with ⟨z2, _⟩ | ⟨n2, a2⟩
      · rw [z2, List.getElem?_set_self hlσ] at f2
        cases f2
        exact absurd rfl (other j q n1 a1 w1 f1).2
      · exact R.sep j l q q' w a1 a2 w1 w2 (other j q n1 a1 w1 f1).1 (other l q' n2 a2 w2 f2).1
  · rcases set_get e with ⟨rfl, z⟩ | ⟨n1, e⟩
    · rw [List.getElem?_set_self hlσ] at f
      cases f
      exact .inr h0
    · rw [List.getElem?_set_ne (fun z => n1 z.symm)] at f
      exact s.sub b ⟨j, q, e, w, f⟩
  · obtain ⟨e1, kv, e2⟩ := s.prot j kvs e
    have ne : i ≠ j := by
      rintro rfl
      exact hpr kv e2
    exact ⟨by rw [List.getElem?_set_ne ne]; exact e1, kv, by rw [List.getElem?_set_ne ne]; exact e2⟩
def fAsgL (i : Nat) (f : M (List D)) : MS := fun en => (f en).bind fun p => (setS i (.olst p.1) p.2).bind fun en2 => some (.next, en2)
theorem s_asgL {i : Nat} {t : TE} {f : M (List D)} (hp : PS X st (tAsg t (gName i))) (w : ∀ σ H Q, tN X.K f σ H Q → t σ H Q) : PS X st (tS X.K (fAsgL i f)) := ps_weak hp fun D σ H ⟨G, en, fl, en', R, hf, k⟩ => by
  obtain ⟨⟨ds, en1⟩, h3, hf⟩ := Option.bind_eq_some_iff.mp hf
  obtain ⟨en2, h4, hf⟩ := Option.bind_eq_some_iff.mp hf
  cases hf
  exact w _ _ _ ⟨G, en, ds, en1, R, h3, fun p vs G' H' s h0 hp gp no hd => k _ G' H' (Stp.assignL s h0 hp gp no hd h4)⟩
/-- target = value -/
def fAsgT (f : D → En → Option En) (h : M SV) : MS := fun en => (h en).bind fun p => (datS p.1).bind fun d => (f d p.2).bind fun en2 => some (.next, en2)
theorem s_asgT {tg : Expr} {is : List Nat} {f : D → En → Option En} (ha : PE X e (tE X.K h)) (hg : PG X tg (tG X.K false is f)) (hs : swapsWithSole [tg] e pos.line X.env = pure false) (hw : swappedStores [tg] e X.env = pure none) (h1 : (assignEach [tg] X.env).map (·.2) = [assign tg X.env]) :
    PS X (.Assign [tg] e pos) (tS X.K (fAsgT f h)) := ps_weak (ps_asg ha hg hs hw h1) fun D σ H ⟨G, en, fl, en', R, hf, k⟩ => by
  obtain ⟨⟨sv, en1⟩, h3, hf⟩ := Option.bind_eq_some_iff.mp hf
  obtain ⟨d, h4, hf⟩ := Option.bind_eq_some_iff.mp hf
  obtain ⟨en2, h5, hf⟩ := Option.bind_eq_some_iff.mp hf
  cases hf
  have z : sv = .dat d := datS_ok h4
  subst z
  exact ⟨G, en, _, en1, R, h3, fun v G' H' s r => ⟨G', en1, d, _, s.rel, .inl r, h5, fun σ' G2 H2 s2 _ _ => k σ' G2 H2 (s.trans s2)⟩⟩
/-! several names at once -/
inductive WI where
  | val (sv : SV)
  | own (ds : List D)
def WR (K : PySem.W.Frag) (G H : Hp) (σ : L2.St) (en : En) (v : V) : WI → Prop
  | .val sv => VR K G v sv
  | .own ds => ∃ p vs, v = .ref p ∧ H p = some (.lst vs) ∧ G p = none ∧ ¬ Own σ en p ∧ DPs K G vs ds
inductive WRs (K : PySem.W.Frag) (G H H0 : Hp) (σ : L2.St) (en : En) : List V → List WI → Prop
  | nil : WRs K G H H0 σ en [] []
  | cons {v : V} {vs : List V} {w : WI} {ws : List WI} : WR K G H σ en v w → (∀ ds, w = .own ds → ∃ p, v = .ref p ∧ H0 p = none ∧ ∀ q ∈ vs.zip ws, ∀ ds', q.2 = .own ds' → q.1 ≠ v) → WRs K G H H0 σ en vs ws → WRs K G H H0 σ en (v :: vs) (w :: ws)
def tW (K : PySem.W.Frag) (f : M (List WI)) : TA := fun σ H Q => ∃ G en os en', Rel K G H σ en ∧ f en = some (os, en') ∧ ∀ vs G' H', Stp K σ G H en σ G' H' en' → WRs K G' H' H σ en' vs os → Q vs H'
def fW0 : M (List WI) := fun en => some ([], en)
def fWv (h : M SV) (fr : M (List WI)) : M (List WI) := fun en => (h en).bind fun p => (fr p.2).bind fun q => some (.val p.1 :: q.1, q.2)
def fWl (h : M (List D)) (fr : M (List WI)) : M (List WI) := fun en => (h en).bind fun p => (fr p.2).bind fun q => some (.own p.1 :: q.1, q.2)
theorem WRs.base {G H H1 H0 : Hp} {σ : L2.St} {en : En} {vs : List V} {ws : List WI} (h : WRs K G H H1 σ en vs ws) (l : ∀ b, H1 b = none → H0 b = none) : WRs K G H H0 σ en vs ws := by
  induction h with
  | nil => exact .nil
  | cons a b _ ih => exact .cons a (fun ds e => let ⟨p, e1, e2, e3⟩ := b ds e; ⟨p, e1, l p e2, e3⟩) ih
theorem WRs.new {G H H1 : Hp} {σ : L2.St} {en : En} {vs : List V} {ws : List WI} (h : WRs K G H H1 σ en vs ws) : ∀ q ∈ vs.zip ws, ∀ ds, q.2 = .own ds → ∃ p, q.1 = .ref p ∧ H1 p = none := by
  induction h with
  | nil => intro q hq; cases hq
  | cons a b _ ih =>
    intro q hq ds e
    rcases List.mem_cons.mp (show q ∈ (_, _) :: _ from hq) with rfl | hq
    · obtain ⟨p, e1, e2, _⟩ := b ds e
      exact ⟨p, e1, e2⟩
    · exact ih q hq ds e
variable {es : List Expr} {fr : M (List WI)}
theorem s_w0 : PA X [] (tW X.K fW0) := pa_weak pa_nil fun σ H Q ⟨G, en, os, en', R, hf, k⟩ => by
  cases hf
  exact k _ G H (Stp.refl R) .nil
theorem s_wv (ha : PE X a (tE X.K h)) (hr : PA X es (tW X.K fr)) (hs : starEach (a :: es) X.env = (false, eval a X.env) :: starEach es X.env) : PA X (a :: es) (tW X.K (fWv h fr)) := pa_weak (pa_cons ha hr hs) fun σ H Q ⟨G, en, os, en', R, hf, k⟩ => by
  obtain ⟨⟨o1, en1⟩, h1, hf⟩ := Option.bind_eq_some_iff.mp hf
  obtain ⟨⟨o2, en2⟩, h2, hf⟩ := Option.bind_eq_some_iff.mp hf
  cases hf
  exact ⟨G, en, o1, en1, R, h1, fun v G1 H1 s1 q1 => ⟨G1, en1, o2, _, s1.rel, h2, fun vs G2 H2 s2 q2 => k (v :: vs) G2 H2 (s1.trans s2) (.cons (show VR X.K G2 v o1 from q1.ex s2.ex) (fun _ e => by cases e) (q2.base fun b => free_of_live s1))⟩⟩
theorem s_wl {f : M (List D)} {t : TE} (ha : PE X a t) (w : ∀ σ H Q, tN X.K f σ H Q → t σ H Q) (hr : PA X es (tW X.K fr)) (hs : starEach (a :: es) X.env = (false, eval a X.env) :: starEach es X.env) : PA X (a :: es) (tW X.K (fWl f fr)) := pa_weak (pa_cons ha hr hs) fun σ H Q ⟨G, en, os, en', R, hf, k⟩ => by
  obtain ⟨⟨o1, en1⟩, h1, hf⟩ := Option.bind_eq_some_iff.mp hf
  obtain ⟨⟨o2, en2⟩, h2, hf⟩ := Option.bind_eq_some_iff.mp hf
  cases hf
  refine w _ _ _ ⟨G, en, o1, en1, R, h1, fun p vs G1 H1 s1 h0 hp gp no hd => ⟨G1, en1, o2, _, s1.rel, h2, fun ws G2 H2 s2 q2 => ?_⟩⟩
  obtain ⟨hp2, gp2, no2⟩ := s2.keepL hp gp no
  refine k (.ref p :: ws) G2 H2 (s1.trans s2) (.cons ⟨p, vs, rfl, hp2, gp2, no2, dps_ex s2.ex _ _ hd⟩ (fun ds e => ⟨p, rfl, h0, fun q hq ds' e' z => ?_⟩) (q2.base fun b => free_of_live s1))
  obtain ⟨p', e1, e2⟩ := q2.new q hq ds' e'
  rw [z] at e1
  cases e1
  rw [e2] at hp
  cases hp
def wiS : WI → SV
  | .val sv => sv
  | .own ds => .olst ds
def setWs : List Nat → List WI → En → Option En
  | i :: is, w :: ws, en => (setS i (wiS w) en).bind fun en1 => setWs is ws en1
  | [], [], en => some en
  | _, _, _ => none
def setVs : List Nat → List V → L2.St → L2.St
  | i :: is, v :: vs, σ => setVs is vs (σ.set i (some v))
  | _, _, σ => σ
theorem own_set {σ : L2.St} {en : En} {i : Nat} {v : V} {sv : SV} {b : Addr} (hl : i < σ.length) (h : Own (σ.set i (some v)) (en.set i (some sv)) b) : (v = .ref b ∧ ownB sv = true) ∨ Own σ en b := by
  obtain ⟨j, s, e, w, f⟩ := h
  rcases set_get e with ⟨z, q⟩ | ⟨n, e⟩
  · cases q
    rw [z, List.getElem?_set_self hl] at f
    cases f
    exact .inl ⟨rfl, w⟩
  · rw [List.getElem?_set_ne (fun z => n z.symm)] at f
    exact .inr ⟨j, s, e, w, f⟩
theorem setWs_ok {G0 H0 G H : Hp} {σ0 : L2.St} {en0 : En} : ∀ {is : List Nat} {ws : List WI} {vs : List V} {σ : L2.St} {en en' : En}, Stp K σ0 G0 H0 en0 σ G H en → WRs K G H H0 σ en vs ws → setWs is ws en = some en' → Stp K σ0 G0 H0 en0 (setVs is vs σ) G H en'
  | [], [], _, _, _, _, s, .nil, e => by cases e; exact s
  | _ :: _, [], _, _, _, _, _, .nil, e => by cases e
  | [], _ :: _, _, _, _, _, _, .cons _ _ _, e => by cases e
  | i :: is, w :: ws, v :: vs, σ, en, en', s, .cons a b c, e => by
    obtain ⟨en1, h1, h2⟩ := Option.bind_eq_some_iff.mp e
    obtain ⟨hl, e1, _⟩ := setS_ok h1
    have hlσ : i < σ.length := by rw [← s.rel.len]; exact hl
    have rest : ∀ (s' : Stp K σ0 G0 H0 en0 (σ.set i (some v)) G H en1), WRs K G H H0 (σ.set i (some v)) en1 vs ws := fun s' => by
      have good : ∀ {vs' : List V} {ws' : List WI}, WRs K G H H0 σ en vs' ws' → (∀ q ∈ vs'.zip ws', ∀ ds', q.2 = .own ds' → ∀ ds, w = .own ds → q.1 ≠ v) → WRs K G H H0 (σ.set i (some v)) en1 vs' ws' := by
        intro vs' ws' h
        induction h with
        | nil => intro _; exact .nil
        | @cons v' vs' w' ws' a' b' _ ih =>
          intro hq
          refine .cons ?_ b' (ih fun q hq' => hq q (List.mem_cons_of_mem _ hq'))
          cases w' with
          | val sv => exact a'
          | own ds' =>
            obtain ⟨p, xs, e3, e4, e5, e6, e7⟩ := a'
            refine ⟨p, xs, e3, e4, e5, fun z => ?_, e7⟩
            rw [e1] at z
            rcases own_set hlσ z with ⟨z1, z2⟩ | z
            · cases w with
              | own ds => exact hq (v', .own ds') List.mem_cons_self ds' rfl ds rfl (e3.trans z1.symm)
              | val sv =>
                have z3 : ownB sv = true := z2
                rw [(show VR K G v sv from a).not_own] at z3
                cases z3
            · exact e6 z
      refine good c fun q hq ds' e' ds ew => ?_
      obtain ⟨_, _, _, e3⟩ := b ds ew
      exact e3 q hq ds' e'
    cases w with
    | val sv =>
      have s' := s.trans (Stp.assign s.rel (show VR K G v sv from a) h1)
      show Stp _ _ _ _ _ (setVs is vs (σ.set i (some v))) _ _ _
      exact setWs_ok s' (rest s') h2
    | own ds =>
      obtain ⟨p, xs, rfl, e4, e5, e6, e7⟩ := a
      obtain ⟨p', z1, z2, _⟩ := b ds rfl
      cases z1
      have s' := Stp.assignL s z2 e4 e5 e6 e7 h1
      show Stp _ _ _ _ _ (setVs is vs (σ.set i (some (V.ref p)))) _ _ _
      exact setWs_ok s' (rest s') h2
def fPar (is : List Nat) (fr : M (List WI)) : MS := fun en => (fr en).bind fun p => (setWs is p.1 p.2).bind fun en2 => some (.next, en2)
theorem WRs.length {G H H0 : Hp} {σ : L2.St} {en : En} {vs : List V} {ws : List WI} (h : WRs K G H H0 σ en vs ws) : vs.length = ws.length := by
  induction h with
  | nil => rfl
  | cons _ _ _ ih => exact congrArg Nat.succ ih
theorem setWs_len : ∀ {is : List Nat} {ws : List WI} {en en' : En}, setWs is ws en = some en' → is.length = ws.length
  | [], [], _, _, _ => rfl
  | _ :: _, [], _, _, h => by cases h
  | [], _ :: _, _, _, h => by cases h
  | i :: is, w :: ws, _, _, h => by
    obtain ⟨en1, _, h2⟩ := Option.bind_eq_some_iff.mp h
    exact congrArg Nat.succ (setWs_len h2)
theorem s_par {ta : List Nat → TA → TS} {is : List Nat} (hp : PS X st (ta is (tW X.K fr))) (w : ∀ D σ H, tW X.K fr σ H (fun vs H1 => vs.length = is.length → D.nx (setVs is vs σ) H1) → ta is (tW X.K fr) D σ H) : PS X st (tS X.K (fPar is fr)) := ps_weak hp fun D σ H ⟨G, en, fl, en', R, hf, k⟩ => by
  obtain ⟨⟨ws, en1⟩, h3, hf⟩ := Option.bind_eq_some_iff.mp hf
  obtain ⟨en2, h4, hf⟩ := Option.bind_eq_some_iff.mp hf
  cases hf
  exact w D σ H ⟨G, en, ws, en1, R, h3, fun vs G' H' s q _ => k _ G' H' (setWs_ok s q h4)⟩
end
end Pf

namespace Pf
open PySem L2

/-- a slot's own thing is written -/
theorem Stp.upd {K : PySem.W.Frag} {G H : Hp} {σ : L2.St} {en : En} {i : Nat} {sv sv' : SV} {a : Addr} {o' : HO} (R : Rel K G H σ en) (he : en[i]? = some (some sv)) (hw : ownB sv = true) (hσ : σ[i]? = some (some (V.ref a))) (hw' : ownB sv' = true)
    (hp : ∀ kvs, sv = .odic true kvs → ∃ kvs', sv' = .odic true kvs') (hs : SR K G (upd H a o') (.ref a) sv') : Stp K σ G H en σ G (L2.upd H a o') (en.set i (some sv')) := by
  have oa : Own σ en a := ⟨i, sv, he, hw, hσ⟩
  obtain ⟨ha, ga⟩ := R.own oa
  have hl : i < en.length := (List.getElem?_eq_some_iff.mp he).1
  have back : ∀ (j : Nat) (s : SV), (en.set i (some sv'))[j]? = some (some s) → ownB s = true → ∃ s0, en[j]? = some (some s0) ∧ ownB s0 = true := fun j s e w => by
    rcases set_get e with ⟨rfl, _⟩ | ⟨_, e⟩
    · exact ⟨sv, he, hw⟩
    · exact ⟨s, e, w⟩
  refine ⟨⟨R.gh.write ga, by rw [List.length_set]; exact R.len, fun j s e => ?_, fun j l s s' v e1 e2 w1 w2 f1 f2 => ?_⟩, Ex.refl G, fun b o hb n => ?_, fun b hb => ?_, fun b hb => .inl hb, fun b ⟨j, s, e, w, f⟩ => .inl ?_, fun j kvs e => ⟨rfl, ?_⟩⟩
  · rcases set_get e with ⟨rfl, q⟩ | ⟨ne, e⟩
    · cases q
      exact ⟨_, hσ, hs⟩
    · obtain ⟨v, hv, hs2⟩ := R.slot j s e
      refine ⟨v, hv, hs2.carry (Ex.refl G) fun b u w ev hb gb => ⟨?_, gb⟩⟩
      rw [upd_ne]
      · exact hb
      · rintro rfl
        subst ev
        exact ne (R.sep j i s sv _ e he w hw hv hσ)
  · obtain ⟨s1, b1, c1⟩ := back j s e1 w1
    obtain ⟨s2, b2, c2⟩ := back l s' e2 w2
    exact R.sep j l s1 s2 v b1 b2 c1 c2 f1 f2
  · rw [upd_ne]
    · exact hb
    · rintro rfl
      exact n oa
  · by_cases z : b = a
    · subst z; rw [upd_same]; exact Option.some_ne_none _
    · rw [upd_ne z]; exact hb
  · obtain ⟨s1, b1, c1⟩ := back j s e w
    exact ⟨j, s1, b1, c1, f⟩
  · by_cases z : i = j
    · subst z
      rw [he] at e
      cases e
      obtain ⟨kv, e2⟩ := hp kvs rfl
      exact ⟨kv, by rw [List.getElem?_set_self hl, e2]⟩
    · exact ⟨kvs, by rw [List.getElem?_set_ne z]; exact e⟩
def olS : Option (Option SV) → Option (List D)
  | some (some (.olst ds)) => some ds
  | _ => none
theorem olS_ok {ds : List D} : ∀ {o : Option (Option SV)}, olS o = some ds → o = some (some (.olst ds))
  | some (some (.olst _)), h => by cases h; rfl
  | some (some (.dat _)), h => by cases h
  | some (some (.rlst _)), h => by cases h
  | some (some (.fdic _)), h => by cases h
  | some (some (.kdic _)), h => by cases h
  | some (some (.odic _ _)), h => by cases h
  | some none, h => by cases h
  | none, h => by cases h
theorem Rel.lst {K : PySem.W.Frag} {G H : Hp} {σ : L2.St} {en : En} {i : Nat} {ds : List D} (R : Rel K G H σ en) (e : olS en[i]? = some ds) : ∃ a vs, σ[i]? = some (some (V.ref a)) ∧ H a = some (.lst vs) ∧ G a = none ∧ DPs K G vs ds := by
  obtain ⟨v, hv, a, vs, rfl, h1, h2, h3⟩ := R.slot i _ (olS_ok e)
  exact ⟨a, vs, hv, h1, h2, h3⟩
theorem Stp.updL {K : PySem.W.Frag} {G H : Hp} {σ : L2.St} {en : En} {i : Nat} {ds ds' : List D} {a : Addr} {vs' : List V} (R : Rel K G H σ en) (e : olS en[i]? = some ds) (hσ : σ[i]? = some (some (V.ref a))) (ga : G a = none) (hd : DPs K G vs' ds') :
    Stp K σ G H en σ G (L2.upd H a (.lst vs')) (en.set i (some (.olst ds'))) :=
  Stp.upd R (olS_ok e) rfl hσ rfl (fun _ z => by cases z) ⟨a, vs', rfl, upd_same, ga, hd⟩
section
variable {X : Cx} {K : PySem.W.Frag} {st : Stmt} {a b e o : Expr} {h : M SV} {pos apos cpos : Pos} {fa fb fk : M Op}
/-- x.append(e) -/
def fApp (i : Nat) (h : M SV) : MS := fun en => (olS en[i]?).bind fun _ => (h en).bind fun p => (datS p.1).bind fun d => (olS p.2[i]?).bind fun ds => if ds.length < lim then some (.next, p.2.set i (some (.olst (ds ++ [d])))) else none
theorem s_app {i : Nat} {t : TE} (hp : PS X st (tDrop t)) (w : ∀ σ H Q, tBM X.K "list" rAppend (tVar i) (tCons (tE X.K h) tNil) σ H Q → t σ H Q) : PS X st (tS X.K (fApp i h)) := ps_weak hp fun D σ H ⟨G, en, fl, en', R, hf, k⟩ => by
  obtain ⟨ds0, e0, hf⟩ := Option.bind_eq_some_iff.mp hf
  obtain ⟨⟨sv, en1⟩, h1, hf⟩ := Option.bind_eq_some_iff.mp hf
  obtain ⟨d, h2, hf⟩ := Option.bind_eq_some_iff.mp hf
  obtain ⟨ds, h3, hf⟩ := Option.bind_eq_some_iff.mp hf
  split at hf
  · rename_i hl
    cases hf
    have z : sv = .dat d := datS_ok h2
    subst z
    obtain ⟨l, vs0, hv, hl0, _, _⟩ := R.lst e0
    refine w _ _ _ ⟨_, hv, .inl ⟨rfl, vs0, .inl (.inl hl0)⟩, G, en, _, en1, R, h1, fun v G1 H1 s1 r => ?_⟩
    obtain ⟨l', vs, hv', hl1, gl, hd⟩ := s1.rel.lst h3
    rw [hv] at hv'
    cases hv'
    exact ⟨l, vs, v, rfl, rfl, hl1, by rw [hd.length]; exact Nat.lt_of_lt_of_le hl line_lim, k σ G1 _ (s1.trans (Stp.updL s1.rel h3 hv gl (hd.append (.cons r .nil))))⟩
  · cases hf
/-- x.extend(a list) -/
def fExt (i : Nat) (h : M SV) : MS := fun en => (olS en[i]?).bind fun _ => (h en).bind fun p => (datS p.1).bind fun d => (lstV d).bind fun es => (olS p.2[i]?).bind fun ds => if ds.length + es.length ≤ lim then some (.next, p.2.set i (some (.olst (ds ++ es)))) else none
theorem s_ext {i : Nat} {t : TE} (hp : PS X st (tDrop t)) (w : ∀ σ H Q, tBM X.K "list" rExtend (tVar i) (tCons (tE X.K h) tNil) σ H Q → t σ H Q) : PS X st (tS X.K (fExt i h)) := ps_weak hp fun D σ H ⟨G, en, fl, en', R, hf, k⟩ => by
  obtain ⟨ds0, e0, hf⟩ := Option.bind_eq_some_iff.mp hf
  obtain ⟨⟨sv, en1⟩, h1, hf⟩ := Option.bind_eq_some_iff.mp hf
  obtain ⟨d, h2, hf⟩ := Option.bind_eq_some_iff.mp hf
  obtain ⟨es, h4, hf⟩ := Option.bind_eq_some_iff.mp hf
  obtain ⟨ds, h3, hf⟩ := Option.bind_eq_some_iff.mp hf
  split at hf
  · rename_i hl
    cases hf
    have z : sv = .dat d := datS_ok h2
    subst z
    have z : d = .list es := lstV_ok h4
    subst z
    obtain ⟨l, vs0, hv, hl0, _, _⟩ := R.lst e0
    refine w _ _ _ ⟨_, hv, .inl ⟨rfl, vs0, .inl (.inl hl0)⟩, G, en, _, en1, R, h1, fun v G1 H1 s1 r => ?_⟩
    obtain ⟨l', vs, hv', hl1, gl, hd⟩ := s1.rel.lst h3
    rw [hv] at hv'
    cases hv'
    cases (show DP X.K G1 v (.list es) from r) with
    | lst g1 g2 =>
      exact ⟨l, _, vs, _, rfl, rfl, hl1, s1.rel.gh.lst g1, by rw [hd.length, g2.length]; exact Nat.le_trans hl line_lim, k σ G1 _ (s1.trans (Stp.updL s1.rel h3 hv gl (hd.append g2)))⟩
  · cases hf
/-- x[k] = e, a slot's own list -/
def fSetI (i : Nat) (fk : M Op) (h : M SV) : MS := fun en => if isSet en[i]? = true then (h en).bind fun p => (datS p.1).bind fun d => (fk p.2).bind fun q => (rs q.1 q.2).bind fun dk => (intV dk).bind fun k => (olS q.2[i]?).bind fun ds => (ixN ds.length k).bind fun j =>
  some (.next, q.2.set i (some (.olst (ds.set j d)))) else none
theorem s_setI {i : Nat} (hp : PS X st (tAsg (tE X.K h) (gSub (tVar i) (tO X.K fk) rSetL))) : PS X st (tS X.K (fSetI i fk h)) := ps_weak hp fun D σ H ⟨G, en, fl, en', R, hf, k⟩ => by
  unfold fSetI at hf
  split at hf
  rotate_left
  · cases hf
  rename_i hset
  obtain ⟨sv0, hsv0⟩ := isSet_ok hset
  obtain ⟨v0, hv0, _⟩ := R.slot i sv0 hsv0
  obtain ⟨⟨sv, en1⟩, h1, hf⟩ := Option.bind_eq_some_iff.mp hf
  obtain ⟨d, h2, hf⟩ := Option.bind_eq_some_iff.mp hf
  obtain ⟨⟨ok, en2⟩, h3, hf⟩ := Option.bind_eq_some_iff.mp hf
  obtain ⟨dk, h4, hf⟩ := Option.bind_eq_some_iff.mp hf
  obtain ⟨kk, h5, hf⟩ := Option.bind_eq_some_iff.mp hf
  obtain ⟨ds, h6, hf⟩ := Option.bind_eq_some_iff.mp hf
  obtain ⟨j, h7, hf⟩ := Option.bind_eq_some_iff.mp hf
  cases hf
  have z : sv = .dat d := datS_ok h2
  subst z
  have z : dk = .int kk := intV_ok h5
  subst z
  refine ⟨G, en, _, en1, R, h1, fun v G1 H1 s1 r => ⟨v0, hv0, G1, en1, ok, en2, s1.rel, h3, fun vk G2 H2 s2 r2 => ?_⟩⟩
  obtain ⟨l, vs, hv', hl1, gl, hd⟩ := s2.rel.lst h6
  rw [hv0] at hv'
  cases hv'
  refine ⟨l, vs, kk, j, rfl, (rs_ok s2.rel r2 h4).int, hl1, by rw [hd.length]; exact h7, k σ G2 _ ((s1.trans s2).trans (Stp.updL s2.rel h6 hv0 gl (hd.set (dp_ex s2.ex _ _ r) j)))⟩
/-- x[k] += e, ints in a slot's own list -/
def rGetL (K : PySem.W.Frag) : V → V → Hp → VK → Prop := fun o i H Q => ∃ p xs k v, o = .ref p ∧ i = .int k ∧ SqL K H p xs ∧ atI xs k = some v ∧ Q v H
theorem get_list : PGet X (rGetL X.K) := by
  intro pins s σ H o i ov iv Q I ro ri h
  obtain ⟨p, xs, k, z, rfl, rfl, hq, he, q⟩ := h
  cases ro
  obtain ⟨t, rfl⟩ := ri
  obtain ⟨its, r, pl, hz⟩ := I.list hq
  obtain ⟨j, h1, h2, h3, h4, h5⟩ := atI_get he
  obtain ⟨w, ew, rw'⟩ := r.get h2
  have hl := r.length
  have hn := line63
  by_cases h0 : 0 ≤ k
  · have hj : k.toNat = j := by
      rw [seqIndex_of h0 h5] at h1
      exact Option.some.inj h1
    exact wpAny_getItem_list pl.isList h0 (by omega) (by rw [hj]; simpa using ew) ⟨z, H, I, rw', q⟩
  · have hj : (k + (its.toArray.size : Int)).toNat = j := by
      rw [seqIndex_neg (by omega) h4] at h1
      rw [List.size_toArray, ← hl]
      exact Option.some.inj h1
    exact wpAny_getItem_list_neg pl.isList (by omega) (by rw [List.size_toArray] <;> omega) (by omega) (by rw [hj]; simpa using ew) ⟨z, H, I, rw', q⟩
def fAugL (i : Nat) (fk : M Op) (fb : M Op) : MS := fun en => (olS en[i]?).bind fun _ => (fk en).bind fun p => (rs p.1 p.2).bind fun dk => (intV dk).bind fun k => (olS p.2[i]?).bind fun ds0 => (atI ds0 k).bind fun d0 => (intV d0).bind fun x =>
  (fb p.2).bind fun q => (rs q.1 q.2).bind fun dv => (intV dv).bind fun y => (olS q.2[i]?).bind fun ds => (ixN ds.length k).bind fun j => some (.next, q.2.set i (some (.olst (ds.set j (.int (x + y))))))
theorem s_augL {i : Nat} (hp : PS X st (tAugS (tVar i) (tO X.K fk) (tO X.K fb) (rGetL X.K) (ipI fun i j => i + j) rSetL)) : PS X st (tS X.K (fAugL i fk fb)) := ps_weak hp fun D σ H ⟨G, en, fl, en', R, hf, k⟩ => by
  obtain ⟨dsa, h0, hf⟩ := Option.bind_eq_some_iff.mp hf
  obtain ⟨⟨ok, en1⟩, h1, hf⟩ := Option.bind_eq_some_iff.mp hf
  obtain ⟨dk, h2, hf⟩ := Option.bind_eq_some_iff.mp hf
  obtain ⟨kk, h3, hf⟩ := Option.bind_eq_some_iff.mp hf
  obtain ⟨ds0, h4, hf⟩ := Option.bind_eq_some_iff.mp hf
  obtain ⟨d0, h5, hf⟩ := Option.bind_eq_some_iff.mp hf
  obtain ⟨x, h6, hf⟩ := Option.bind_eq_some_iff.mp hf
  obtain ⟨⟨ov, en2⟩, h7, hf⟩ := Option.bind_eq_some_iff.mp hf
  obtain ⟨dv, h8, hf⟩ := Option.bind_eq_some_iff.mp hf
  obtain ⟨y, h9, hf⟩ := Option.bind_eq_some_iff.mp hf
  obtain ⟨ds, ha, hf⟩ := Option.bind_eq_some_iff.mp hf
  obtain ⟨j, hb, hf⟩ := Option.bind_eq_some_iff.mp hf
  cases hf
  have z : dk = .int kk := intV_ok h3
  subst z
  have z : d0 = .int x := intV_ok h6
  subst z
  have z : dv = .int y := intV_ok h9
  subst z
  obtain ⟨l, _, hv0, _, _, _⟩ := R.lst h0
  refine ⟨_, hv0, G, en, ok, en1, R, h1, fun vk G1 H1 s1 r1 => ?_⟩
  obtain ⟨l', vs0, hv', hl0, gl0, hd0⟩ := s1.rel.lst h4
  rw [hv0] at hv'
  cases hv'
  obtain ⟨w, hw, rw'⟩ := hd0.at h5
  have ek := (rs_ok s1.rel r1 h2).int
  refine ⟨l, vs0, kk, w, rfl, ek, SqL.of hl0, hw, G1, en1, ov, en2, s1.rel, h7, fun vv G2 H2 s2 r2 => ?_⟩
  obtain ⟨l', vs, hv', hl1, gl, hd⟩ := s2.rel.lst ha
  rw [hv0] at hv'
  cases hv'
  cases rw'
  refine ⟨x, y, rfl, (rs_ok s2.rel r2 h8).int, l, vs, kk, j, rfl, ek, hl1, by rw [hd.length]; exact hb, k σ G2 _ ((s1.trans s2).trans (Stp.updL s2.rel ha hv0 gl (hd.set (.int _) j)))⟩
/-- x += e, ints in a slot -/
def inS : Option (Option SV) → Option Int
  | some (some (.dat (.int i))) => some i
  | _ => none
theorem inS_ok {i : Int} {o : Option (Option SV)} (h : inS o = some i) : o = some (some (.dat (.int i))) := by
  unfold inS at h
  split at h
  · cases h; rfl
  · cases h
def fAugI (i : Nat) (f : Int → Int → Int) (fb : M Op) : MS := fun en => (inS en[i]?).bind fun x => (fb en).bind fun q => (rs q.1 q.2).bind fun dv => (intV dv).bind fun y => (setS i (.dat (.int (f x y))) q.2).bind fun en2 => some (.next, en2)
theorem s_augI {i : Nat} {f : Int → Int → Int} (hp : PS X st (tAug i (tO X.K fb) (ipI f))) : PS X st (tS X.K (fAugI i f fb)) := ps_weak hp fun D σ H ⟨G, en, fl, en', R, hf, k⟩ => by
  obtain ⟨x, h0, hf⟩ := Option.bind_eq_some_iff.mp hf
  obtain ⟨⟨ov, en1⟩, h1, hf⟩ := Option.bind_eq_some_iff.mp hf
  obtain ⟨dv, h2, hf⟩ := Option.bind_eq_some_iff.mp hf
  obtain ⟨y, h3, hf⟩ := Option.bind_eq_some_iff.mp hf
  obtain ⟨en2, h4, hf⟩ := Option.bind_eq_some_iff.mp hf
  cases hf
  have z : dv = .int y := intV_ok h3
  subst z
  obtain ⟨v, hv, r⟩ := R.slot i _ (inS_ok h0)
  cases (show DP X.K G v (.int x) from r)
  refine ⟨_, hv, G, en, ov, en1, R, h1, fun vv G1 H1 s1 r1 => ⟨x, y, rfl, (rs_ok s1.rel r1 h2).int, ?_⟩⟩
  exact k _ G1 H1 (s1.trans (Stp.assign s1.rel (show VR X.K G1 (.int (f x y)) (.dat (.int (f x y))) from .int _) h4))

/-! #### dicts -/
def keyD : D → Option Key
  | .int i => some (.inl i)
  | .str s => some (.inr s)
  | _ => none
def lookD (kvs : List (Key × D)) (k : Key) : Option D := (kvs.find? fun kv => decide (kv.1 = k)).map (·.2)
def putD (kvs : List (Key × D)) (k : Key) (v : D) : List (Key × D) := if (kvs.any fun kv => decide (kv.1 = k)) = true then kvs.map (fun kv => if kv.1 = k then (kv.1, v) else kv) else kvs ++ [(k, v)]
theorem keyD_ok {K : PySem.W.Frag} {G H : Hp} {v : V} {d : D} {k : Key} (h : VD K G H v d) (e : keyD d = some k) : v = kV k := by
  unfold keyD at e
  split at e
  · cases e; exact h.int
  · cases e; exact h.str
  · cases e
theorem KD.look {G : Hp} {k : Key} {d : D} : ∀ {ks : List (Key × V)} {kvs : List (Key × D)}, KD K G ks kvs → lookD kvs k = some d → ∃ v, valV ks k = some v ∧ DP K G v d
  | [], _, .nil, e => by cases e
  | p :: ks, q :: kvs, .cons r t, e => by
    by_cases z : q.1 = k
    · have e' : lookD (q :: kvs) k = some q.2 := by simp [lookD, List.find?_cons, z]
      rw [e'] at e
      cases e
      exact ⟨p.2, valV_pos (r.1.trans z), r.2⟩
    · have e' : lookD (q :: kvs) k = lookD kvs k := by simp [lookD, List.find?_cons, z]
      rw [e'] at e
      obtain ⟨v, h1, h2⟩ := KD.look t e
      exact ⟨v, (valV_neg fun w => z (r.1 ▸ w)).trans h1, h2⟩
theorem KD.any {G : Hp} {k : Key} {ks : List (Key × V)} {kvs : List (Key × D)} (h : KD K G ks kvs) : (ks.any fun kv => decide (kv.1 = k)) = kvs.any fun kv => decide (kv.1 = k) := by
  unfold KD at h
  induction h with
  | nil => rfl
  | cons r t ih => rw [List.any_cons, List.any_cons, ih, r.1]
theorem KD.mapP {G : Hp} {k : Key} {v : V} {d : D} {ks : List (Key × V)} {kvs : List (Key × D)} (h : KD K G ks kvs) (r : DP K G v d) : KD K G (ks.map (fun kv => if kv.1 = k then (kv.1, v) else kv)) (kvs.map (fun kv => if kv.1 = k then (kv.1, d) else kv)) := by
  unfold KD at h
  induction h with
  | nil => exact .nil
  | @cons p q ps qs e t ih =>
    rw [List.map_cons, List.map_cons]
    refine .cons ?_ ih
    by_cases z : p.1 = k
    · rw [if_pos z, if_pos (e.1 ▸ z)]; exact ⟨e.1, r⟩
    · rw [if_neg z, if_neg (fun w => z (e.1.trans w))]; exact e
theorem KD.app {G : Hp} {ks ls : List (Key × V)} {kvs lvs : List (Key × D)} (h : KD K G ks kvs) (g : KD K G ls lvs) : KD K G (ks ++ ls) (kvs ++ lvs) := by
  unfold KD at h
  induction h with
  | nil => exact g
  | cons e t ih => exact .cons e ih
theorem KD.put {G : Hp} {k : Key} {v : V} {d : D} {ks : List (Key × V)} {kvs : List (Key × D)} (h : KD K G ks kvs) (r : DP K G v d) : KD K G (putK ks k v) (putD kvs k d) := by
  unfold putK putD
  rw [h.any]
  split
  · exact h.mapP r
  · exact h.app (.cons ⟨rfl, r⟩ .nil)
theorem KD.length {G : Hp} {ks : List (Key × V)} {kvs : List (Key × D)} (h : KD K G ks kvs) : ks.length = kvs.length := Paired.length h
/-- the dict at an operand -/
def rsD : Op → En → Option (List (Key × D))
  | .slot i, en => match en[i]? with
    | some (some (.odic _ kvs)) => some kvs
    | some (some (.fdic kvs)) => some kvs
    | some (some (.kdic kvs)) => some kvs
    | _ => none
  | .val (.fdic kvs), _ => some kvs
  | .val (.kdic kvs), _ => some kvs
  | _, _ => none
theorem rsD_ok {G H : Hp} {σ : L2.St} {en : En} {v : V} {kvs : List (Key × D)} (R : Rel K G H σ en) {o : Op} (h : OR K G σ v o) (e : rsD o en = some kvs) : ∃ a ks, v = .ref a ∧ Rd H a (.dK ks) ∧ KD K G ks kvs := by
  unfold rsD at e
  split at e
  · split at e
    · rename_i p kvs' q
      cases e
      obtain ⟨w, hw, a, ks, e1, e2, e3, e4⟩ := R.slot _ _ q
      rw [show σ[_]? = some (some v) from h] at hw
      cases hw
      exact ⟨a, ks, e1, .inl e2, e4⟩
    · rename_i kvs' q
      cases e
      obtain ⟨w, hw, a, ks, e1, e2, e4⟩ := R.slot _ _ q
      rw [show σ[_]? = some (some v) from h] at hw
      cases hw
      exact ⟨a, ks, e1, R.gh.rd (.inl e2), e4⟩
    · rename_i kvs' q
      cases e
      obtain ⟨w, hw, a, ob, ks, e1, e2, e4⟩ := R.slot _ _ q
      rw [show σ[_]? = some (some v) from h] at hw
      cases hw
      exact ⟨a, ks, e1, R.gh.rd (.inr ⟨ob, e2⟩), e4⟩
    · cases e
  · cases e
    obtain ⟨a, ks, e1, e2, e4⟩ := h
    exact ⟨a, ks, e1, R.gh.rd (.inl e2), e4⟩
  · cases e
    obtain ⟨a, ob, ks, e1, e2, e4⟩ := h
    exact ⟨a, ks, e1, R.gh.rd (.inr ⟨ob, e2⟩), e4⟩
  · cases e
def fAtD (fa fb : M Op) : M SV := fun en => (fa en).bind fun p => (fb p.2).bind fun q => (rsD p.1 q.2).bind fun kvs => (rs q.1 q.2).bind fun d2 => (keyD d2).bind fun k => (lookD kvs k).bind fun d => some (.dat d, q.2)
theorem s_atD (hu : X.A.units + 1 < cLine) (ha : PE X a (tO X.K fa)) (hb : PE X b (tO X.K fb)) (hs : NoSl b) : PE X (.Subscript a b pos) (tE X.K (fAtD fa fb)) := pe_weak (pe_dget hu ha hb hs) fun σ H Q ⟨G, en, sv, en', R, hf, k⟩ => by
  obtain ⟨⟨o1, en1⟩, h1, hf⟩ := Option.bind_eq_some_iff.mp hf
  obtain ⟨⟨o2, en2⟩, h2, hf⟩ := Option.bind_eq_some_iff.mp hf
  obtain ⟨kvs, e1, hf⟩ := Option.bind_eq_some_iff.mp hf
  obtain ⟨d2, e2, hf⟩ := Option.bind_eq_some_iff.mp hf
  obtain ⟨kk, e3, hf⟩ := Option.bind_eq_some_iff.mp hf
  obtain ⟨d, e4, hf⟩ := Option.bind_eq_some_iff.mp hf
  cases hf
  refine ⟨G, en, o1, en1, R, h1, fun v1 G1 H1 s1 q1 => ⟨G1, en1, o2, _, s1.rel, h2, fun v2 G2 H2 s2 q2 => ?_⟩⟩
  obtain ⟨l, ks, rfl, hr, hk⟩ := rsD_ok s2.rel (q1.ex s2.ex) e1
  obtain ⟨v, hv, r⟩ := hk.look e4
  exact ⟨l, v, rfl, .inl ⟨ks, kk, hr, keyD_ok (rs_ok s2.rel q2 e2) e3, hv.symm⟩, k v G2 H2 (s1.trans s2) r⟩
/-- a slot's own dict -/
theorem Rel.dic {G H : Hp} {σ : L2.St} {en : En} {i : Nat} {q : Bool × List (Key × D)} (R : Rel K G H σ en) (e : odS en[i]? = some q) : ∃ a ks, σ[i]? = some (some (V.ref a)) ∧ H a = some (.dK ks) ∧ G a = none ∧ KD K G ks q.2 := by
  obtain ⟨v, hv, a, vs, rfl, h1, h2, h3⟩ := R.slot i _ (odS_ok e)
  exact ⟨a, vs, hv, h1, h2, h3⟩
theorem Stp.updD {G H : Hp} {σ : L2.St} {en : En} {i : Nat} {q : Bool × List (Key × D)} {kvs' : List (Key × D)} {a : Addr} {ks' : List (Key × V)} (R : Rel K G H σ en) (e : odS en[i]? = some q) (hσ : σ[i]? = some (some (V.ref a))) (ga : G a = none) (hd : KD K G ks' kvs') :
    Stp K σ G H en σ G (L2.upd H a (.dK ks')) (en.set i (some (.odic q.1 kvs'))) :=
  Stp.upd R (odS_ok e) rfl hσ rfl (fun _ z => by injection z with z1 _; exact ⟨kvs', by rw [z1]⟩) ⟨a, ks', rfl, upd_same, ga, hd⟩
/-- d[k] = e -/
def fPutD (i : Nat) (fk : M Op) (h : M SV) : MS := fun en => if isSet en[i]? = true then (h en).bind fun p => (datS p.1).bind fun d => (fk p.2).bind fun q => (rs q.1 q.2).bind fun dk => (keyD dk).bind fun k => (odS q.2[i]?).bind fun od => if od.2.length < lim then
  some (.next, q.2.set i (some (.odic od.1 (putD od.2 k d)))) else none else none
theorem s_putD {i : Nat} (hp : PS X st (sDPut (tVar i) (tO X.K fk) (tE X.K h))) : PS X st (tS X.K (fPutD i fk h)) := ps_weak hp fun D σ H ⟨G, en, fl, en', R, hf, k⟩ => by
  unfold fPutD at hf
  split at hf
  rotate_left
  · cases hf
  rename_i hset
  obtain ⟨sv0, hsv0⟩ := isSet_ok hset
  obtain ⟨v0, hv0, _⟩ := R.slot i sv0 hsv0
  obtain ⟨⟨sv, en1⟩, h1, hf⟩ := Option.bind_eq_some_iff.mp hf
  obtain ⟨d, h2, hf⟩ := Option.bind_eq_some_iff.mp hf
  obtain ⟨⟨ok, en2⟩, h3, hf⟩ := Option.bind_eq_some_iff.mp hf
  obtain ⟨dk, h4, hf⟩ := Option.bind_eq_some_iff.mp hf
  obtain ⟨kk, h5, hf⟩ := Option.bind_eq_some_iff.mp hf
  obtain ⟨od, h6, hf⟩ := Option.bind_eq_some_iff.mp hf
  split at hf
  rotate_left
  · cases hf
  rename_i hl
  cases hf
  have z : sv = .dat d := datS_ok h2
  subst z
  refine ⟨G, en, _, en1, R, h1, fun v G1 H1 s1 r => ⟨v0, hv0, G1, en1, ok, en2, s1.rel, h3, fun vk G2 H2 s2 r2 => ?_⟩⟩
  obtain ⟨l, ks, hv', hl1, gl, hd⟩ := s2.rel.dic h6
  rw [hv0] at hv'
  cases hv'
  refine ⟨l, _, rfl, .inl ⟨ks, kk, hl1, keyD_ok (rs_ok s2.rel r2 h4) h5, by rw [hd.length]; exact Nat.lt_of_lt_of_le hl line_lim, rfl⟩, k σ G2 _ ((s1.trans s2).trans (Stp.updD s2.rel h6 hv0 gl (hd.put (dp_ex s2.ex _ _ r))))⟩
/-- d[k] += e, ints -/
def fAugD (i : Nat) (fk : M Op) (fb : M Op) : MS := fun en => (odS en[i]?).bind fun _ => (fk en).bind fun p => (rs p.1 p.2).bind fun dk => (keyD dk).bind fun k => (odS p.2[i]?).bind fun ds0 => (lookD ds0.2 k).bind fun d0 => (intV d0).bind fun x =>
  (fb p.2).bind fun q => (rs q.1 q.2).bind fun dv => (intV dv).bind fun y => (odS q.2[i]?).bind fun od => if od.2.length < lim then some (.next, q.2.set i (some (.odic od.1 (putD od.2 k (.int (x + y)))))) else none
theorem s_augD {i : Nat} (hp : PS X st (sDAug (tVar i) (tO X.K fk) (tO X.K fb) rAdd)) : PS X st (tS X.K (fAugD i fk fb)) := ps_weak hp fun D σ H ⟨G, en, fl, en', R, hf, k⟩ => by
  obtain ⟨dsa, h0, hf⟩ := Option.bind_eq_some_iff.mp hf
  obtain ⟨⟨ok, en1⟩, h1, hf⟩ := Option.bind_eq_some_iff.mp hf
  obtain ⟨dk, h2, hf⟩ := Option.bind_eq_some_iff.mp hf
  obtain ⟨kk, h3, hf⟩ := Option.bind_eq_some_iff.mp hf
  obtain ⟨ds0, h4, hf⟩ := Option.bind_eq_some_iff.mp hf
  obtain ⟨d0, h5, hf⟩ := Option.bind_eq_some_iff.mp hf
  obtain ⟨x, h6, hf⟩ := Option.bind_eq_some_iff.mp hf
  obtain ⟨⟨ov, en2⟩, h7, hf⟩ := Option.bind_eq_some_iff.mp hf
  obtain ⟨dv, h8, hf⟩ := Option.bind_eq_some_iff.mp hf
  obtain ⟨y, h9, hf⟩ := Option.bind_eq_some_iff.mp hf
  obtain ⟨od, ha, hf⟩ := Option.bind_eq_some_iff.mp hf
  split at hf
  rotate_left
  · cases hf
  rename_i hl
  cases hf
  have z : d0 = .int x := intV_ok h6
  subst z
  have z : dv = .int y := intV_ok h9
  subst z
  obtain ⟨l, _, hv0, _, _, _⟩ := R.dic h0
  refine ⟨_, hv0, G, en, ok, en1, R, h1, fun vk G1 H1 s1 r1 => ?_⟩
  obtain ⟨l', ks0, hv', hl0, gl0, hd0⟩ := s1.rel.dic h4
  rw [hv0] at hv'
  cases hv'
  obtain ⟨w, hw, rw'⟩ := hd0.look h5
  have ek := keyD_ok (rs_ok s1.rel r1 h2) h3
  refine ⟨l, w, rfl, .inl ⟨ks0, kk, .inl hl0, ek, hw.symm⟩, G1, en1, ov, en2, s1.rel, h7, fun vv G2 H2 s2 r2 => ?_⟩
  obtain ⟨l', ks, hv', hl1, gl, hd⟩ := s2.rel.dic ha
  rw [hv0] at hv'
  cases hv'
  cases rw'
  exact ⟨x, y, rfl, (rs_ok s2.rel r2 h8).int, _, .inl ⟨ks, kk, hl1, ek, by rw [hd.length]; exact Nat.lt_of_lt_of_le hl line_lim, rfl⟩, k σ G2 _ ((s1.trans s2).trans (Stp.updD s2.rel ha hv0 gl (hd.put (.int _))))⟩
end
end Pf

namespace Pf
open PySem L2

/-! #### new dicts -/
def tDn (K : PySem.W.Frag) (f : M (List (Key × D))) : TE := fun σ H Q => ∃ G en kvs en', Rel K G H σ en ∧ f en = some (kvs, en') ∧
  ∀ p ks G' H', Stp K σ G H en σ G' H' en' → H p = none → H' p = some (.dK ks) → G' p = none → ¬ Own σ en' p → KD K G' ks kvs → Q (.ref p) H'
def fPairs : List (Key × M SV) → M (List (Key × D))
  | [] => fun en => some ([], en)
  | q :: r => fun en => (q.2 en).bind fun p => (datS p.1).bind fun d => (fPairs r p.2).bind fun z => some ((q.1, d) :: z.1, z.2)
def mergeD (kvs more : List (Key × D)) : List (Key × D) := more.foldl (fun acc kv => putD acc kv.1 kv.2) kvs
def fDict (l : List (Key × M SV)) : M (List (Key × D)) := fun en => (fPairs l en).bind fun p => some (mergeD [] p.1, p.2)
section
variable {X : Cx} {K : PySem.W.Frag} {st : Stmt} {sts : List Stmt} {a b e : Expr} {h : M SV} {pos : Pos} {fa fb : M Op}
theorem KD.merge {G : Hp} : ∀ {more : List (Key × V)} {moreD : List (Key × D)} {ks : List (Key × V)} {kvs : List (Key × D)}, KD K G more moreD → KD K G ks kvs → KD K G (mergeK ks more) (mergeD kvs moreD)
  | [], _, _, _, .nil, h => h
  | p :: ps, q :: qs, ks, kvs, .cons r t, h => by
    show KD K G (mergeK (putK ks p.1 p.2) ps) (mergeD (putD kvs q.1 q.2) qs)
    rw [r.1]
    exact KD.merge t (h.put r.2)
theorem pairs_read : ∀ (l : List (Key × M SV)) (σ : L2.St) (H : Hp) (Q : List (V × V) → Hp → Prop), (∃ G en kvs en', Rel K G H σ en ∧ fPairs l en = some (kvs, en') ∧ ∀ ks G' H', Stp K σ G H en σ G' H' en' → KD K G' ks kvs → Q (ks.map fun kv => (kV kv.1, kv.2)) H') →
    tPairs (l.map fun q => (tC (kV q.1), tE K q.2)) σ H Q
  | [], σ, H, Q, ⟨G, en, kvs, en', R, hf, k⟩ => by
    cases hf
    exact k [] G H (Stp.refl R) .nil
  | q :: r, σ, H, Q, ⟨G, en, kvs, en', R, hf, k⟩ => by
    obtain ⟨⟨sv, en1⟩, h1, hf⟩ := Option.bind_eq_some_iff.mp hf
    obtain ⟨d, h2, hf⟩ := Option.bind_eq_some_iff.mp hf
    obtain ⟨⟨z, en2⟩, h3, hf⟩ := Option.bind_eq_some_iff.mp hf
    cases hf
    have z1 : sv = .dat d := datS_ok h2
    subst z1
    refine ⟨G, en, _, en1, R, h1, fun v G1 H1 s1 rv => pairs_read r σ H1 _ ⟨G1, en1, z, _, s1.rel, h3, fun ks G2 H2 s2 hk => ?_⟩⟩
    exact k ((q.1, v) :: ks) G2 H2 (s1.trans s2) (.cons ⟨rfl, dp_ex s2.ex _ _ rv⟩ hk)
theorem mkeys (l : List (Key × M SV)) (en en' : En) (kvs : List (Key × D)) (h : fPairs l en = some (kvs, en')) : kvs.length = l.length := by
  induction l generalizing en kvs with
  | nil => cases h; rfl
  | cons q r ih =>
    obtain ⟨⟨sv, en1⟩, h1, hf⟩ := Option.bind_eq_some_iff.mp h
    obtain ⟨d, h2, hf⟩ := Option.bind_eq_some_iff.mp hf
    obtain ⟨⟨z, en2⟩, h3, hf⟩ := Option.bind_eq_some_iff.mp hf
    cases hf
    exact congrArg Nat.succ (ih en1 z h3)
/-- a write at a new place that no slot has -/
theorem Stp.writeNew {σ σ' : L2.St} {G H G' H' : Hp} {en en' : En} (s : Stp K σ G H en σ' G' H' en') {p : Addr} {o : HO} (h0 : H p = none) (g : G' p = none) (no : ¬ Own σ' en' p) : Stp K σ G H en σ' G' (L2.upd H' p o) en' where
  rel := ⟨s.rel.gh.write g, s.rel.len, fun i sv e => by
    obtain ⟨v, hv, hs⟩ := s.rel.slot i sv e
    refine ⟨v, hv, hs.carry (Ex.refl _) fun a u w ev ha ga => ⟨?_, ga⟩⟩
    rw [upd_ne]
    · exact ha
    · rintro rfl
      subst ev
      exact no ⟨i, sv, e, w, hv⟩, s.rel.sep⟩
  ex := s.ex
  frame := fun b u hb n => by
    rw [upd_ne (ne_of_none hb h0)]
    exact s.frame b u hb n
  live := fun b hb => by
    by_cases z : b = p
    · subst z; rw [upd_same]; exact Option.some_ne_none _
    · rw [upd_ne z]; exact s.live b hb
  fresh := s.fresh
  sub := s.sub
  prot := s.prot
theorem dict_read (l : List (Key × M SV)) (hl : l.length ≤ 15) : ∀ σ H Q, tDn K (fDict l) σ H Q → tDisp (l.map fun q => (tC (kV q.1), tE K q.2)) σ H Q := fun σ H Q ⟨G, en, kvs, en', R, hf, k⟩ => by
  obtain ⟨⟨more, en1⟩, h1, hf⟩ := Option.bind_eq_some_iff.mp hf
  cases hf
  intro p hp
  have s0 := (Pst.lay R.gh (o := .dK []) hp).stp R
  refine pairs_read l σ _ _ ⟨G, en, more, _, s0.rel, h1, fun ks G1 H1 s1 hk => ?_⟩
  obtain ⟨hp1, gp1, no1⟩ := s1.keepL (show upd H p (.dK []) p = some (.dK []) from upd_same) (R.gh.free hp) fun z => (R.own z).1 hp
  refine ⟨hp1, ks, rfl, by rw [hk.length, mkeys l _ _ _ h1]; exact hl, ?_⟩
  exact k p _ G1 _ ((s0.trans s1).writeNew hp gp1 no1) hp upd_same gp1 no1 (hk.merge .nil)
def fFreshD (f : M (List (Key × D))) : M SV := fun en => (f en).bind fun p => some (.fdic p.1, p.2)
theorem s_freshD {f : M (List (Key × D))} {t : TE} (ha : PE X a t) (w : ∀ σ H Q, tDn X.K f σ H Q → t σ H Q) : PE X a (tE X.K (fFreshD f)) := pe_weak ha fun σ H Q ⟨G, en, sv, en', R, hf, k⟩ => by
  obtain ⟨⟨ds, en1⟩, h1, hf⟩ := Option.bind_eq_some_iff.mp hf
  cases hf
  exact w _ _ _ ⟨G, en, ds, _, R, h1, fun p vs G' H' s1 h0 hp gp no hd => k _ _ _ (s1.freezeNew h0 hp gp no) ⟨p, vs, rfl, upd_same, hd.ex (Ex.new gp)⟩⟩
/-- dict(d) -/
def fCopyD (fa : M Op) : M (List (Key × D)) := fun en => (fa en).bind fun p => (rsD p.1 p.2).bind fun kvs => some (kvs, p.2)
theorem s_copyD {x : Str} {p : Pos} (hx : x = "dict") (hg : Gl X x) (hm : X.mg x = none) (ha : PE X a (tO X.K fa)) (hs : starEach [a] X.env = (false, eval a X.env) :: starEach [] X.env) : PE X (.Call (.Name x p) [a] [] pos) (tDn X.K (fCopyD fa)) := by
  subst hx
  refine pe_weak (pe_callTy call_dictD hg hm (by decide +kernel) (pa_cons ha pa_nil hs) (by decide) (by decide) hs) fun σ H Q ⟨G, en, sv, en', R, hf, k⟩ => ?_
  obtain ⟨⟨o1, en1⟩, h1, hf⟩ := Option.bind_eq_some_iff.mp hf
  obtain ⟨kvs, e1, hf⟩ := Option.bind_eq_some_iff.mp hf
  cases hf
  refine ⟨G, en, o1, _, R, h1, fun v1 G1 H1 s1 q1 => ?_⟩
  obtain ⟨l, ks, rfl, hr, hk⟩ := rsD_ok s1.rel q1 e1
  refine ⟨l, ks, rfl, hr, fun p hp => ?_⟩
  have ps : Pst G1 H1 G1 (upd H1 p (.dK ks)) := Pst.lay s1.rel.gh hp
  exact k p ks G1 _ (s1.trans (ps.stp s1.rel)) (free_of_live s1 hp) upd_same (s1.rel.gh.free hp) (fun z => (s1.rel.own z).1 hp) hk
/-- a new own thing into a slot -/
theorem Stp.assignN {G0 H0 G H : Hp} {σ0 σ : L2.St} {en0 en en' : En} {i : Nat} {p : Addr} {sv : SV} (s : Stp K σ0 G0 H0 en0 σ G H en) (h0 : H0 p = none) (hs : SR K G H (.ref p) sv) (no : ¬ Own σ en p) (h : setS i sv en = some en') : Stp K σ0 G0 H0 en0 (σ.set i (some (.ref p))) G H en' := by
  obtain ⟨hl, rfl, hpr⟩ := setS_ok h
  have R := s.rel
  have hlσ : i < σ.length := by rw [← R.len]; exact hl
  refine ⟨⟨R.gh, by rw [List.length_set, List.length_set]; exact R.len, fun j q e => ?_, fun j l q q' w e1 e2 w1 w2 f1 f2 => ?_⟩, s.ex, s.frame, s.live, s.fresh, fun b z => ?_, fun j kvs e => ?_⟩
  · rcases set_get e with ⟨rfl, z⟩ | ⟨ne, e⟩
    · cases z
      exact ⟨.ref p, List.getElem?_set_self hlσ, hs⟩
    · obtain ⟨w, hw, hq⟩ := R.slot j q e
      exact ⟨w, by rw [List.getElem?_set_ne (fun z => ne z.symm)]; exact hw, hq⟩
  · have other : ∀ (j : Nat) (q : SV), j ≠ i → en[j]? = some (some q) → ownB q = true → (σ.set i (some (V.ref p)))[j]? = some (some w) → σ[j]? = some (some w) ∧ w ≠ .ref p := fun j q ne e w1 f => by
      rw [List.getElem?_set_ne (fun z => ne z.symm)] at f
      exact ⟨f, fun z => no ⟨j, q, e, w1, by rw [← z]; exact f⟩⟩
    rcases set_get e1 with ⟨z1, _⟩ | ⟨n1, a1⟩
    · rcases set_get e2 with ⟨z2, _⟩ | ⟨n2, a2⟩
      · rw [z1, z2]
      · rw [z1, List.getElem?_set_self hlσ] at f1
        cases f1
        exact absurd rfl (other l q' n2 a2 w2 f2).2
    · rcases set_get e2 with ⟨z2, _⟩ | ⟨n2, a2⟩
      · rw [z2, List.getElem?_set_self hlσ] at f2
        cases f2
        exact absurd rfl (other j q n1 a1 w1 f1).2
      · exact R.sep j l q q' w a1 a2 w1 w2 (other j q n1 a1 w1 f1).1 (other l q' n2 a2 w2 f2).1
  · rcases own_set hlσ z with ⟨z1, _⟩ | z
    · cases z1
      exact .inr h0
    · exact s.sub b z
  · obtain ⟨e1, kv, e2⟩ := s.prot j kvs e
    have ne : i ≠ j := by
      rintro rfl
      exact hpr kv e2
    exact ⟨by rw [List.getElem?_set_ne ne]; exact e1, kv, by rw [List.getElem?_set_ne ne]; exact e2⟩
def fAsgD (i : Nat) (f : M (List (Key × D))) : MS := fun en => (f en).bind fun p => (setS i (.odic false p.1) p.2).bind fun en2 => some (.next, en2)
theorem s_asgD {i : Nat} {t : TE} {f : M (List (Key × D))} (hp : PS X st (tAsg t (gName i))) (w : ∀ σ H Q, tDn X.K f σ H Q → t σ H Q) : PS X st (tS X.K (fAsgD i f)) := ps_weak hp fun D σ H ⟨G, en, fl, en', R, hf, k⟩ => by
  obtain ⟨⟨ds, en1⟩, h3, hf⟩ := Option.bind_eq_some_iff.mp hf
  obtain ⟨en2, h4, hf⟩ := Option.bind_eq_some_iff.mp hf
  cases hf
  exact w _ _ _ ⟨G, en, ds, en1, R, h3, fun p vs G' H' s h0 hp gp no hd => k _ G' H' (Stp.assignN (sv := .odic false ds) s h0 ⟨p, vs, rfl, hp, gp, hd⟩ no h4)⟩

/-! #### loops -/
def aftL (g : MS) (r : Fl × En) : Option (Fl × En) := match r.1 with
  | .next => g r.2
  | .cont => g r.2
  | .brk => some (.next, r.2)
  | .ret d => some (.ret d, r.2)
def loopF (bd : D → En → Option En) (body : MS) : List D → MS
  | [] => fun en => some (.next, en)
  | d :: ds => fun en => (bd d en).bind fun en1 => (body en1).bind (aftL (loopF bd body ds))
def fFor (it : M (List D)) (bd : D → En → Option En) (body : MS) : MS := fun en => (it en).bind fun p => loopF bd body p.1 p.2
theorem for_read {w : Bool} {it : M (List D)} {bd : D → En → Option En} {body : MS} {is : List Nat} : ∀ D σ H, tS K (fFor it bd body) D σ H → tFor (tI K w it) (tG K w is bd) (tS K body) D σ H := fun D σ H ⟨G, en, fl, en', R, hf, k⟩ => by
  obtain ⟨⟨ds, en1⟩, h1, hf⟩ := Option.bind_eq_some_iff.mp hf
  refine ⟨G, en, ds, en1, R, h1, fun J G1 H1 s1 ok => ?_⟩
  refine ⟨fun i m σc Hc => m = ds.length - i ∧ i ≤ ds.length ∧ ∃ Gc enc, Stp K σ G H en σc Gc Hc enc ∧ Ex G1 Gc ∧ loopF bd body (ds.drop i) enc = some (fl, en'), ⟨ds.length, rfl, Nat.zero_le _, G1, en1, s1, Ex.refl _, hf⟩, ?_⟩
  rintro i m σc Hc ⟨rfl, hi, Gc, enc, sc, ex1, hloop⟩
  obtain ⟨okI, okE⟩ := ok Gc Hc ex1 sc.rel.gh i
  by_cases hlt : i < ds.length
  · obtain ⟨go, yl⟩ := okI ds[i] (List.getElem?_eq_getElem hlt)
    rw [List.drop_eq_getElem_cons hlt] at hloop
    obtain ⟨en2, hb, hloop⟩ := Option.bind_eq_some_iff.mp hloop
    obtain ⟨⟨f1, en3⟩, hbody, hloop⟩ := Option.bind_eq_some_iff.mp hloop
    refine .inr ⟨go, fun σ' H' => ds.length - (i + 1) = ds.length - (i + 1) ∧ i + 1 ≤ ds.length ∧ ∃ Gc enc, Stp K σ G H en σ' Gc H' enc ∧ Ex G1 Gc ∧ loopF bd body (ds.drop (i + 1)) enc = some (fl, en'), fun σ' H' w => ⟨_, by omega, w⟩, fun x H' y => ?_⟩
    obtain ⟨G3, ps, dx⟩ := yl x H' y
    have s2 := sc.trans (ps.stp sc.rel)
    refine ⟨G3, enc, _, en2, s2.rel, dx, hb, fun σ2 G4 H4 s3 _ _ => ⟨G4, en2, f1, en3, s3.rel, hbody, fun σ5 G5 H5 s4 => ?_⟩⟩
    have sa := s2.trans (s3.trans s4)
    have exa := ex1.trans (ps.ex.trans (s3.ex.trans s4.ex))
    cases f1 with
    | next => exact ⟨rfl, by omega, G5, en3, sa, exa, hloop⟩
    | cont => exact ⟨rfl, by omega, G5, en3, sa, exa, hloop⟩
    | brk => cases hloop; exact k σ5 G5 H5 sa
    | ret d => cases hloop; exact k σ5 G5 H5 sa
  · have e : i = ds.length := by omega
    subst e
    rw [List.drop_length] at hloop
    cases hloop
    exact .inl ⟨okE (Nat.le_refl _), k σc Gc Hc sc⟩
theorem s_for {w : Bool} {tg iter : Expr} {it : M (List D)} {bd : D → En → Option En} {body : MS} {is : List Nat} (hp : PassesOwn (model X.prog X.w) X.A X.env X.xe) (hc : X.calm = true) (hi : PI X tg iter (tI X.K w it)) (hg : PG X tg (tG X.K w is bd)) (hb : PSs X sts (tS X.K body))
    (hs : ∀ x, foldedSetIterable iter X.env x = pure x) : PS X (.For tg iter sts [] pos) (tS X.K (fFor it bd body)) := ps_weak (ps_for hp hc hi hg hb hs) for_read
def loopW (c : M Bool) (body : MS) : Nat → MS
  | 0 => fun _ => none
  | n + 1 => fun en => (c en).bind fun p => if p.1 = true then (body p.2).bind (aftL (loopW c body n)) else some (.next, p.2)
theorem s_while {t : Expr} {c : M Bool} {body : MS} {n : Nat} (hp : PassesOwn (model X.prog X.w) X.A X.env X.xe) (ht : PT X t (tT X.K c)) (hb : PSs X sts (tS X.K body)) : PS X (.While t sts [] pos) (tS X.K (loopW c body n)) :=
  ps_weak (ps_while hp ht hb) fun D σ H ⟨G, en, fl, en', R, hf, k⟩ => by
    refine ⟨fun m σc Hc => ∃ Gc enc, Stp X.K σ G H en σc Gc Hc enc ∧ loopW c body m enc = some (fl, en'), ⟨n, G, en, Stp.refl R, hf⟩, ?_⟩
    rintro m σc Hc ⟨Gc, enc, sc, hloop⟩
    cases m with
    | zero => cases hloop
    | succ m =>
      obtain ⟨⟨b, en1⟩, h1, hloop⟩ := Option.bind_eq_some_iff.mp hloop
      refine ⟨Gc, enc, b, en1, sc.rel, h1, fun G1 H1 s1 => ?_⟩
      cases b with
      | false => cases hloop; exact iteF (k σc G1 H1 (sc.trans s1))
      | true =>
        refine iteT ⟨fun σ' H' => ∃ Gc enc, Stp X.K σ G H en σ' Gc H' enc ∧ loopW c body m enc = some (fl, en'), fun σ' H' w => ⟨m, Nat.lt_succ_self m, w⟩, ?_⟩
        rw [if_pos rfl] at hloop
        obtain ⟨⟨f1, en3⟩, hbody, hloop⟩ := Option.bind_eq_some_iff.mp hloop
        refine ⟨G1, en1, f1, en3, s1.rel, hbody, fun σ5 G5 H5 s4 => ?_⟩
        have sa := sc.trans (s1.trans s4)
        cases f1 with
        | next => exact ⟨G5, en3, sa, hloop⟩
        | cont => exact ⟨G5, en3, sa, hloop⟩
        | brk => cases hloop; exact k σ5 G5 H5 sa
        | ret d => cases hloop; exact k σ5 G5 H5 sa
end

/-! ### a def's function -/
def outs : List SV → En → Option (List SV)
  | [], _ => some []
  | s :: r, o :: e => (match s with
    | .odic true _ => (match o with
      | some (.odic true kvs) => some (SV.odic true kvs)
      | _ => none)
    | s => if ownB s = true then none else some s).bind fun s' => (outs r e).bind fun r' => some (s' :: r')
  | _ :: _, [] => none
def endV : Fl → Option D
  | .ret d => some d
  | .next => some .none
  | _ => none
def fBody (np ns : Nat) (body : MS) : Fnc := fun args => if args.length = np then (body (args.map some ++ List.replicate (ns - np) none)).bind fun r => (endV r.1).bind fun d => (outs args r.2).bind fun o => some (d, o) else none
theorem outs_ok : ∀ {svs : List SV} {en : En} {o : List SV}, outs svs en = some o → o.length = svs.length ∧ ∀ (i : Nat) (s' : SV), o[i]? = some s' → (∃ kvs kvs', svs[i]? = some (.odic true kvs) ∧ s' = .odic true kvs' ∧ en[i]? = some (some (.odic true kvs'))) ∨ (svs[i]? = some s' ∧ ownB s' = false)
  | [], _, _, h => by cases h; exact ⟨rfl, fun i s' e => by simp at e⟩
  | _ :: _, [], _, h => by cases h
  | s :: r, q :: e, o, h => by
    obtain ⟨s1, h1, h⟩ := Option.bind_eq_some_iff.mp h
    obtain ⟨r1, h2, h⟩ := Option.bind_eq_some_iff.mp h
    cases h
    obtain ⟨l, f⟩ := outs_ok h2
    refine ⟨congrArg Nat.succ l, fun i s' hi => ?_⟩
    cases i with
    | zero =>
      have hi : s1 = s' := Option.some.inj hi
      subst hi
      split at h1
      · rename_i kvs
        split at h1
        · rename_i kvs'
          cases h1
          exact .inl ⟨kvs, kvs', rfl, rfl, rfl⟩
        · cases h1
      · split at h1
        · cases h1
        · rename_i hn
          cases h1
          exact .inr ⟨rfl, by simpa using hn⟩
    | succ i => exact f i s' hi
section
variable {K : PySem.W.Frag}
theorem map_some {α : Type} {l : List α} {i : Nat} {x : α} (h : (l.map some)[i]? = some (some x)) : l[i]? = some x := by
  rw [List.getElem?_map] at h
  obtain ⟨y, h1, h2⟩ := Option.map_eq_some_iff.mp h
  cases h2
  exact h1
theorem some_map {α : Type} {l : List α} {i : Nat} {x : α} (h : l[i]? = some x) : (l.map some)[i]? = some (some x) := by rw [List.getElem?_map, h]; rfl
theorem pad_get {α : Type} {l : List α} {n i : Nat} {x : α} (h : (l.map some ++ List.replicate n none)[i]? = some (some x)) : l[i]? = some x := by
  by_cases hi : i < (l.map some).length
  · rw [List.getElem?_append_left hi] at h
    exact map_some h
  · rw [List.getElem?_append_right (by omega), List.getElem?_replicate] at h
    split at h <;> cases h
theorem get_pad {α : Type} {l : List α} {n i : Nat} {x : α} (h : l[i]? = some x) : (l.map some ++ List.replicate n none)[i]? = some (some x) := by
  have hi : i < (l.map some).length := by rw [List.length_map]; exact (List.getElem?_eq_some_iff.mp h).1
  rw [List.getElem?_append_left hi]
  exact some_map h
theorem own_pad {vs : List V} {svs : List SV} {n m : Nat} {b : Addr} (h : Own (vs.map some ++ List.replicate n none) (svs.map some ++ List.replicate m none) b) : Own (vs.map some) (svs.map some) b := by
  obtain ⟨i, s, e, w, f⟩ := h
  exact ⟨i, s, some_map (pad_get e), w, some_map (pad_get f)⟩
theorem Rel.pad {G H : Hp} {vs : List V} {svs : List SV} (R : Rel K G H (vs.map some) (svs.map some)) (n : Nat) : Rel K G H (vs.map some ++ List.replicate n none) (svs.map some ++ List.replicate n none) where
  gh := R.gh
  len := by rw [List.length_append, List.length_append, R.len, List.length_replicate, List.length_replicate]
  slot := fun i sv e => by
    obtain ⟨v, hv, hs⟩ := R.slot i sv (some_map (pad_get e))
    exact ⟨v, get_pad (map_some hv), hs⟩
  sep := fun i j s s' v e1 e2 w1 w2 f1 f2 => R.sep i j s s' v (some_map (pad_get e1)) (some_map (pad_get e2)) w1 w2 (some_map (pad_get f1)) (some_map (pad_get f2))
theorem outs_stp {G H G' H' : Hp} {vs : List V} {svs svs' : List SV} {n : Nat} {σ' : L2.St} {en' : En} (R : Rel K G H (vs.map some) (svs.map some)) (s : Stp K (vs.map some ++ List.replicate n none) G H (svs.map some ++ List.replicate n none) σ' G' H' en')
    (h : outs svs en' = some svs') : Stp K (vs.map some) G H (svs.map some) (vs.map some) G' H' (svs'.map some) := by
  obtain ⟨hl, ho⟩ := outs_ok h
  -- what the i-th of the ends is
  have one : ∀ (i : Nat) (s' : SV), (svs'.map some)[i]? = some (some s') → (∃ kvs, (svs.map some)[i]? = some (some (SV.odic true kvs)) ∧ en'[i]? = some (some s') ∧ σ'[i]? = (vs.map some ++ List.replicate n none)[i]?) ∨ ((svs.map some)[i]? = some (some s') ∧ ownB s' = false) := fun i s' e => by
    rcases ho i s' (map_some e) with ⟨kvs, kvs', e1, rfl, e2⟩ | ⟨e1, e2⟩
    · exact .inl ⟨kvs, some_map e1, e2, (s.prot i kvs (get_pad e1)).1⟩
    · exact .inr ⟨some_map e1, e2⟩
  have slotv : ∀ (i : Nat) (v : V), (vs.map some ++ List.replicate n none)[i]? = some (some v) → (vs.map some)[i]? = some (some v) := fun i v e => some_map (pad_get e)
  refine ⟨⟨s.rel.gh, by rw [List.length_map, hl, ← R.len, List.length_map], fun i s' e => ?_, fun i j s1 s2 v e1 e2 w1 w2 f1 f2 => ?_⟩, s.ex, fun b o hb no => s.frame b o hb fun z => no (own_pad z), s.live, fun b hb => ?_, fun b ⟨i, s', e, w, f⟩ => .inl ?_, fun i kvs e => ⟨rfl, ?_⟩⟩
  · rcases one i s' e with ⟨kvs, e1, e2, e3⟩ | ⟨e1, e2⟩
    · obtain ⟨v, hv, hs⟩ := s.rel.slot i s' e2
      rw [e3] at hv
      exact ⟨v, slotv i v hv, hs⟩
    · obtain ⟨v, hv, hs⟩ := R.slot i s' e1
      exact ⟨v, hv, ((hs.vr e2).ex s.ex).sr⟩
  · rcases one i s1 e1 with ⟨k1, a1, b1, c1⟩ | ⟨_, a1⟩
    · rcases one j s2 e2 with ⟨k2, a2, b2, c2⟩ | ⟨_, a2⟩
      · exact R.sep i j _ _ v a1 a2 rfl rfl f1 f2
      · rw [a2] at w2; cases w2
    · rw [a1] at w1; cases w1
  · rcases s.fresh b hb with z | z | z
    · exact .inl z
    · exact .inr (.inl z)
    · exact .inr (.inr (own_pad z))
  · rcases one i s' e with ⟨k1, a1, b1, c1⟩ | ⟨_, a1⟩
    · exact ⟨i, _, a1, rfl, f⟩
    · rw [a1] at w; cases w
  · obtain ⟨_, kv, e2⟩ := s.prot i kvs (get_pad (map_some e))
    have hi : i < svs'.length := by rw [hl]; exact (List.getElem?_eq_some_iff.mp (map_some e)).1
    rcases one i svs'[i] (some_map (List.getElem?_eq_getElem hi)) with ⟨k1, a1, b1, c1⟩ | ⟨a1, a2⟩
    · rw [e2] at b1
      refine ⟨kv, ?_⟩
      rw [some_map (List.getElem?_eq_getElem hi)]
      have b1 : some (SV.odic true kv) = some svs'[i] := Option.some.inj b1
      rw [b1]
    · rw [e] at a1
      have a1 : some (SV.odic true kvs) = some svs'[i] := Option.some.inj a1
      rw [← Option.some.inj a1] at a2
      cases a2
end
/-- a def keeps its promise, by its body -/
theorem fn_body {P : Program} {w : World} {K : PySem.W.Frag} {mg : Str → Option Value} {base : Heap} {x qual : Str} {st : Stmt} {f : Addr} {fd : FuncData} {N ps : List Str} {k : Nat} {body : MS} (F : Fun K x qual st f fd) (S : FnScope N ps (defScope st))
    (hb : ∀ X : Cx, X.prog = P → X.w = w → X.K = K → X.mg = mg → X.base = base → X.N = N → X.env.scope = defScope st → X.calm = true → (∀ y, X.fn y = true) → Room k X.A → X.xe = (fun _ _ => False) → PSs X (defBody st) (tS X.K body)) :
    FnOk P w K mg base CX0 (k + 1) f fd ps (spD K (fBody ps.length N.length body) ps.length) := by
  refine F.ok S (fun vs H Q E h => h.1) (fun cdv A outer s H vs Q E hr h => ?_)
  obtain ⟨hn, G, svs, d, svs', R, hc, kk⟩ := h
  refine ⟨tS K body, hb _ rfl rfl rfl rfl rfl rfl rfl rfl (fun _ => rfl) hr rfl, ?_⟩
  have hsl : svs.length = vs.length := by have := R.len; rw [List.length_map, List.length_map] at this; exact this
  unfold fBody at hc
  split at hc
  rotate_left
  · cases hc
  rename_i hnp
  obtain ⟨⟨fl, en'⟩, h1, hc⟩ := Option.bind_eq_some_iff.mp hc
  obtain ⟨d', h2, hc⟩ := Option.bind_eq_some_iff.mp hc
  obtain ⟨o, h3, hc⟩ := Option.bind_eq_some_iff.mp hc
  cases hc
  have est : L2.start N vs = vs.map some ++ List.replicate (N.length - ps.length) none := by unfold L2.start; rw [hn]
  rw [est]
  refine ⟨G, _, fl, en', R.pad _, h1, fun σ' G' H' s => ?_⟩
  have s' := outs_stp R s h3
  cases fl with
  | ret d => cases h2; exact fun v r => kk v G' H' s' r
  | next => cases h2; exact kk .non G' H' s' .non
  | brk => cases h2
  | cont => cases h2
end Pf

namespace Pf
open PySem L2

/-! ### further expressions -/
section
variable {X : Cx} {K : PySem.W.Frag} {a b e o : Expr} {pos apos cpos : Pos} {fa fb : M Op}
/-- two readings of one expression -/
def fAlt (f g : M SV) : M SV := fun en => match f en with
  | some r => some r
  | none => g en
theorem s_alt {f g : M SV} (h1 : PE X e (tE X.K f)) (h2 : PE X e (tE X.K g)) : PE X e (tE X.K (fAlt f g)) := ⟨fun pins s σ H Q I ⟨G, en, sv, en', R, hf, k⟩ => by
  unfold fAlt at hf
  split at hf
  · rename_i r hr
    cases hf
    exact h1.run pins s σ H Q I ⟨G, en, sv, en', R, hr, k⟩
  · exact h2.run pins s σ H Q I ⟨G, en, sv, en', R, hf, k⟩⟩
/-- x.count(k), whole numbers in a list, in a tuple -/
def cntD (d k : D) : Option D := (seqV d).bind fun ds => (intsOf ds).bind fun ns => (intV k).bind fun i => some (.int (ns.count i : Nat))
def fCnt (fa fb : M Op) : M SV := fun en => (fa en).bind fun p => (rs p.1 p.2).bind fun d0 => (seqV d0).bind fun _ => (fb p.2).bind fun q => (rs p.1 q.2).bind fun d1 => (rs q.1 q.2).bind fun d2 => (cntD d1 d2).bind fun d => if (isLst d0 == isLst d1) = true then some (.dat d, q.2) else none
where isLst : D → Bool
  | .list _ => true
  | _ => false
theorem vals_ints {G : Hp} {vs : List V} : ∀ {ns : List Int}, DPs K G vs (ns.map PyData.int) → vs = ns.map V.int
  | [], h => by cases h; rfl
  | n :: ns, h => by
    cases h with
    | cons r t => cases r; rw [vals_ints t]; rfl
theorem mt_tcount : MtR X "tuple.count" (fun x xs H Q => ∃ (p : Addr) (ns : List Int) (k : Int), x = .ref p ∧ xs = [.int k] ∧ SqT X.K H p (ns.map V.int) ∧ Q (.int (ns.count k : Nat)) H) := fun pins s σ H x xs v us Q I rx rxs h => by
  obtain ⟨p, ns, k, e1, e2, hs, q⟩ := h
  subst e1 e2
  cases rx
  obtain ⟨u, rfl, t, rfl⟩ := rxs.one
  obtain ⟨its, rv, ⟨ob, ho, hc, n, hd⟩, _⟩ := I.tuple hs
  cases ob with
  | mk cls dd data sl =>
    simp only at hc hd
    subst hc hd
    have hi := ints_of_vals rv
    refine call_meets PySem.F.slot_tuple_count ⟨_, ho, rfl⟩ PySem.F.entry_tuple_count (PySem.F.args_tuple_count_2 _ _) (SeqAt.tuple_countAt p its.toArray n dd sl (.int k t) (eqk k)) ⟨ho, fun y hy => (eqk_gives hi y (by simpa using hy)).at _ _, ?_⟩
    refine ⟨.int (ns.count k : Nat), H, I.tok _, ⟨s.toks, ?_⟩, q⟩
    have ec : its.toArray.toList.countP (eqk k) = ns.count k := eqk_count hi
    rw [ec]
theorem VD.tupX {G H : Hp} {v : V} {ds : List D} (h : VD K G H v (.tuple ds)) : ∃ a vs, v = .ref a ∧ TupX K G a vs := by
  rcases h with h | ⟨a, vs, ds', e1, e, _⟩
  · cases h with
    | tup h1 _ => exact ⟨_, _, rfl, h1⟩
  · cases e
theorem tupX_gh {G H : Hp} {a : Addr} {xs : List V} (g : GH G H) (h : TupX K G a xs) : TupX K H a xs := h.elim (fun ⟨its, z⟩ => .inl ⟨its, (g _ _ z).elim id fun ⟨_, _, e, _⟩ => by cases e⟩) .inr
theorem s_cnt (ha : PE X o (tO X.K fa)) (hb : PE X e (tO X.K fb)) (hbase : attributeBase o "count" X.env (eval o X.env) = eval o X.env)
    (hfew : ((backTo cpos (starEach [e] X.env)).all (fun x => !x.1) && (backToKw cpos (keywordEach [] X.env)).all (fun x => x.1.isSome) && decide (([e] : List Expr).length + ([] : List Keyword).length + (if ([] : List Keyword).isEmpty then 0 else 1) < 30)) = true)
    (hline : (apos.endLine == cpos.line) = true) (hs : starEach [e] X.env = (false, eval e X.env) :: starEach [] X.env) : PE X (.Call (.Attribute o "count" apos) [e] [] cpos) (tE X.K (fCnt fa fb)) := ⟨fun pins s σ H Q I ⟨G, en, sv, en', R, hf, k⟩ => by
  obtain ⟨⟨o1, en1⟩, h1, hf⟩ := Option.bind_eq_some_iff.mp hf
  obtain ⟨d0, h2, hf⟩ := Option.bind_eq_some_iff.mp hf
  obtain ⟨ds0, h3, hf⟩ := Option.bind_eq_some_iff.mp hf
  obtain ⟨⟨o2, en2⟩, h4, hf⟩ := Option.bind_eq_some_iff.mp hf
  obtain ⟨d1, h5, hf⟩ := Option.bind_eq_some_iff.mp hf
  obtain ⟨d2, h6, hf⟩ := Option.bind_eq_some_iff.mp hf
  obtain ⟨d, h7, hf⟩ := Option.bind_eq_some_iff.mp hf
  split at hf
  rotate_left
  · cases hf
  rename_i hsame
  cases hf
  obtain ⟨ds1, h8, h7⟩ := Option.bind_eq_some_iff.mp h7
  obtain ⟨ns, h9, h7⟩ := Option.bind_eq_some_iff.mp h7
  obtain ⟨i, h10, h7⟩ := Option.bind_eq_some_iff.mp h7
  cases h7
  have z := intV_ok h10
  subst z
  have z := intsOf_eq h9
  subst z
  refine wpAny_Call_method_late hbase hfew hline rfl (thn (ha.run pins s σ H (fun x H1 => ∃ G1, Stp X.K σ G H en σ G1 H1 en1 ∧ OR X.K G1 σ x o1) I ⟨G, en, o1, en1, R, h1, fun v1 G1 H1 s1 q1 => ⟨G1, s1, q1⟩⟩) fun v s1 ⟨x, H1, I1, r1, G1, st1, q1⟩ => ?_)
  have w0 := rs_ok st1.rel q1 h2
  have arg : wpAny (model X.prog X.w) X.A (spliced (backTo cpos (starEach [e] X.env))) (fun us s' => ∃ u H2 G2 w, us = [u] ∧ Inv X pins σ H2 s' ∧ RelV w u ∧ Stp X.K σ G1 H1 en1 σ G2 H2 en2 ∧ OR X.K G2 σ w o2) X.xe s1 := by
    refine thn ((pa_cons hb pa_nil hs).run cpos pins s1 σ H1 (fun vs H2 => ∃ G2 w, vs = [w] ∧ Stp X.K σ G1 H1 en1 σ G2 H2 en2 ∧ OR X.K G2 σ w o2) I1 ⟨G1, en1, o2, en2, st1.rel, h4, fun v2 G2 H2 s2 q2 => ⟨G2, v2, rfl, s2, q2⟩⟩) fun us s' ⟨vs, H2, I2, rv, G2, w, e, s2, q2⟩ => ?_
    subst e
    obtain ⟨u, e, ru⟩ := rv.one
    exact ⟨u, H2, G2, w, e, I2, ru, s2, q2⟩
  rw [hs] at arg ⊢
  rcases seqV_ok h3 with z | z
  · subst z
    obtain ⟨l, vs, rfl, hl, _⟩ := w0.lst st1.rel.gh
    obtain ⟨t1, t2⟩ := tyV_is (T := "list") I1 r1 (.inl ⟨rfl, vs, SqL.of hl⟩)
    refine ⟨"list", "list.count", PySem.F.plainAttrs_list, PySem.F.slot_list_count, PySem.F.type_list_count, t1, t2, ?_⟩
    refine Calls.callWith_builtin (by rfl) (Calls.evalArgs_plain (thn arg fun us s' ⟨u, H2, G2, w, e, I2, ru, s2, q2⟩ => ?_))
    subst e
    have w1 := rs_ok s2.rel (q1.ex s2.ex) h5
    have w2 := rs_ok s2.rel q2 h6
    have e2 := w2.int
    subst e2
    rcases seqV_ok h8 with z | z
    · subst z
      obtain ⟨l', vs', e3, hl', hd⟩ := w1.lst s2.rel.gh
      cases e3
      have e4 := vals_ints hd
      subst e4
      exact mt_lcount pins s' σ H2 _ _ v [u] Q I2 r1 (.cons ru .nil) ⟨l, ns, i, rfl, rfl, SqL.of hl', k _ G2 H2 (st1.trans s2) (.int _)⟩
    · subst z
      cases hsame
  · subst z
    obtain ⟨l, vs, rfl, hx⟩ := w0.tupX
    obtain ⟨ob, g1, g2, g3, _⟩ := (tupX_gh st1.rel.gh hx).bare I1
    cases r1
    refine ⟨"tuple", "tuple.count", PySem.F.plainAttrs_tuple, PySem.F.slot_tuple_count, PySem.F.type_tuple_count, ⟨ob, g1, g2⟩, fun c z => by cases z; exact ⟨ob, g1, g3⟩, ?_⟩
    refine Calls.callWith_builtin (by rfl) (Calls.evalArgs_plain (thn arg fun us s' ⟨u, H2, G2, w, e, I2, ru, s2, q2⟩ => ?_))
    subst e
    have w1 := rs_ok s2.rel (q1.ex s2.ex) h5
    have w2 := rs_ok s2.rel q2 h6
    have e2 := w2.int
    subst e2
    rcases seqV_ok h8 with z | z
    · subst z
      cases hsame
    · subst z
      obtain ⟨l', vs', e3, hl', hd, _⟩ := w1.tup
      cases e3
      have e4 := vals_ints hd
      subst e4
      exact mt_tcount pins s' σ H2 (V.ref l) _ _ [u] Q I2 (show RelV (V.ref l) (Value.ref l) from rfl) (.cons ru .nil) ⟨l, ns, i, rfl, rfl, seqT_gh s2.rel.gh hl', k _ G2 H2 (st1.trans s2) (.int _)⟩⟩
/-! #### list(range(..)) -/
theorem rgV_dps {G : Hp} {lo hi : Int} : DPs K G (rgV lo hi) (rngD lo (hi - lo).toNat) := by
  unfold rgV rngD
  generalize List.range (hi - lo).toNat = l
  induction l with
  | nil => exact .nil
  | cons x l ih => exact .cons (.int _) ih
def fOfR1 (fa : M Op) : M (List D) := fun en => (fa en).bind fun p => (rs p.1 p.2).bind fun d => (intV d).bind fun j => if j ≤ 1000000 ∧ -1000000 ≤ j then some (rngD 0 j.toNat, p.2) else none
theorem s_ofR1 {x y : Str} {p p2 : Pos} (hc : X.calm = true) (hx : x = "list") (hg : Gl X x) (hm : X.mg x = none) (hy : y = "range") (hg2 : Gl X y) (hm2 : X.mg y = none) (ha : PE X a (tO X.K fa)) (na : starEach [a] X.env = (false, eval a X.env) :: starEach [] X.env) : PE X (.Call (.Name x p) [.Call (.Name y p2) [a] [] pos] [] cpos) (tN X.K (fOfR1 fa)) := by
  subst hx hy
  refine pe_weak (pe_listRg hc hg hm (prg_1 hg2 hm2 ha na) rfl) fun σ H Q ⟨G, en, sv, en', R, hf, k⟩ => ?_
  obtain ⟨⟨o1, en1⟩, h1, hf⟩ := Option.bind_eq_some_iff.mp hf
  obtain ⟨d, h2, hf⟩ := Option.bind_eq_some_iff.mp hf
  obtain ⟨j, h3, hf⟩ := Option.bind_eq_some_iff.mp hf
  split at hf
  rotate_left
  · cases hf
  rename_i hl
  cases hf
  have z := intV_ok h3
  subst z
  refine ⟨G, en, o1, en1, R, h1, fun v1 G1 H1 s1 q1 => ⟨j, (rs_ok s1.rel q1 h2).int, ⟨by omega, by omega, by omega, by omega, by omega⟩, fun q hq => ?_⟩⟩
  have e : j.toNat = (j - 0).toNat := by omega
  rw [e] at k
  exact new_at s1 hq rgV_dps k
def fOfR2 (fa fb : M Op) : M (List D) := fun en => (fa en).bind fun p => (fb p.2).bind fun q => (rs p.1 q.2).bind fun d => (rs q.1 q.2).bind fun d' => (intV d).bind fun i => (intV d').bind fun j => if i ≤ 1000000 ∧ -1000000 ≤ i ∧ j ≤ 1000000 ∧ -1000000 ≤ j then some (rngD i (j - i).toNat, q.2) else none
theorem s_ofR2 {x y : Str} {p p2 : Pos} (hc : X.calm = true) (hx : x = "list") (hg : Gl X x) (hm : X.mg x = none) (hy : y = "range") (hg2 : Gl X y) (hm2 : X.mg y = none) (ha : PE X a (tO X.K fa)) (hb : PE X b (tO X.K fb)) (na : starEach [a, b] X.env = (false, eval a X.env) :: starEach [b] X.env)
    (nb : starEach [b] X.env = (false, eval b X.env) :: starEach [] X.env) (hp : (backTo pos (starEach [b] X.env)).any (·.1) = false) : PE X (.Call (.Name x p) [.Call (.Name y p2) [a, b] [] pos] [] cpos) (tN X.K (fOfR2 fa fb)) := by
  subst hx hy
  refine pe_weak (pe_listRg hc hg hm (prg_2 hg2 hm2 ha hb na nb hp) rfl) fun σ H Q ⟨G, en, sv, en', R, hf, k⟩ => ?_
  obtain ⟨⟨o1, en1⟩, h1, hf⟩ := Option.bind_eq_some_iff.mp hf
  obtain ⟨⟨o2, en2⟩, h2, hf⟩ := Option.bind_eq_some_iff.mp hf
  obtain ⟨d, h3, hf⟩ := Option.bind_eq_some_iff.mp hf
  obtain ⟨d', h4, hf⟩ := Option.bind_eq_some_iff.mp hf
  obtain ⟨i, h5, hf⟩ := Option.bind_eq_some_iff.mp hf
  obtain ⟨j, h6, hf⟩ := Option.bind_eq_some_iff.mp hf
  split at hf
  rotate_left
  · cases hf
  rename_i hl
  cases hf
  have z := intV_ok h5
  subst z
  have z := intV_ok h6
  subst z
  refine ⟨G, en, o1, en1, R, h1, fun v1 G1 H1 s1 q1 => ⟨G1, en1, o2, _, s1.rel, h2, fun v2 G2 H2 s2 q2 => ?_⟩⟩
  exact ⟨i, j, (rs_ok s2.rel (q1.ex s2.ex) h3).int, (rs_ok s2.rel q2 h4).int, ⟨by omega, by omega, by omega, by omega, by omega⟩, fun q hq => new_at (s1.trans s2) hq rgV_dps k⟩
end
end Pf

set_option maxHeartbeats 4000000
namespace Pf
open PySem L2

/-! #### dict(pairs), a walk over its keys -/
section
variable {X : Cx}
/-- dict(xs) of a list of pairs: the exact object -/
theorem callX_dictP (hcalm : X.calm = true) : CallR X (.type "dict") (fun xs H Q => ∃ (a : Addr) (ps : List Addr) (kvs : List (Key × V)), xs = [.ref a] ∧ SqL X.K H a (ps.map V.ref) ∧ Paired (fun p kv => SqT X.K H p [kV kv.1, kv.2]) ps kvs ∧
    ∀ p o, H p = none → Q (.ref p) (upd H p (.frz o (.dK (mergeK [] kvs))))) := by
  intro pins s σ H xs us Q I r q
  obtain ⟨a, ps, kvs, ex, hq, hp, q⟩ := q
  subst ex
  obtain ⟨u, eu, rx⟩ := vals1 r
  subst eu
  cases rx
  obtain ⟨its, rv, pl, hz⟩ := I.list hq
  have ei := refs_at rv
  subst ei
  rw [List.length_map] at hz
  obtain ⟨prs, rel, hl, hpr⟩ := pairs_of I hp
  obtain ⟨o, n, ho, hc, hd, hdat⟩ := pl
  refine call_dict_pairs (prs := prs) (I.ok.hd hcalm) ho hc hd hdat (by simp [hl]) (by rw [hl]; exact hz) (fun j q' e => ?_) fun h' tk hd' k => ?_
  · obtain ⟨b, u, e1, e2, e3⟩ := hpr j q' e
    exact ⟨b, u, by simp [e1], e2, e3⟩
  · have hm : (s.heap.objs.size == sysModules) = false := beq_eq_false_iff_ne.mpr (Nat.ne_of_gt I.big)
    have hlen : (mergeK [] kvs).length ≤ sizeLine := by
      refine Nat.le_trans (length_mergeK kvs []) ?_
      rw [List.length_nil, Nat.zero_add, rel.length, hl]
      exact hz
    obtain ⟨ob, hob⟩ : ∃ ob, h'.get? s.heap.objs.size = some ob := by
      obtain ⟨ob, _, _, e, _⟩ := hd'
      exact ⟨ob, e⟩
    exact ⟨.ref s.heap.objs.size, upd H s.heap.objs.size (.frz ob (.dK (mergeK [] kvs))), I.laid (t' := tk) k (Nat.le_refl _) (show ObjOk X.prog X.w _ _ _ (.frz ob (.dK (mergeK [] kvs))) from ⟨hob, hlen, hm, merged [] prs, KV.merge rel .nil, hd'⟩), rfl, q _ ob (I.hok.fresh (Nat.le_refl _))⟩
end
def pairD : D → Option (Key × D)
  | .tuple [k, d] => (keyD k).map fun q => (q, d)
  | _ => none
def pairsD : List D → Option (List (Key × D))
  | [] => some []
  | d :: ds => (pairD d).bind fun q => (pairsD ds).bind fun r => some (q :: r)
def fDictOf (fa : M Op) : M SV := fun en => (fa en).bind fun p => (rs p.1 p.2).bind fun d1 => (lstV d1).bind fun ds => (pairsD ds).bind fun kvs => some (.kdic (mergeD [] kvs), p.2)
def kD : Key → D
  | .inl i => .int i
  | .inr s => .str s
def fKeys (i : Nat) : M (List D) := fun en => match en[i]? with
  | some (some (.kdic kvs)) => some (kvs.map fun kv => kD kv.1, en)
  | _ => none
section
variable {X : Cx} {K : PySem.W.Frag} {a e tg : Expr} {fa : M Op} {pos : Pos}
theorem pairs_dps {G H : Hp} (g : GH G H) : ∀ {ds : List D} {vs : List V} {kvs : List (Key × D)}, DPs K G vs ds → pairsD ds = some kvs → ∃ (ps : List Addr) (ks : List (Key × V)), vs = ps.map V.ref ∧ Paired (fun p kv => SqT K H p [kV kv.1, kv.2]) ps ks ∧ KD K G ks kvs
  | [], _, _, .nil, h => by
    cases h
    exact ⟨[], [], rfl, .nil, .nil⟩
  | d :: ds, _, _, .cons r t, h => by
    obtain ⟨q, h1, h⟩ := Option.bind_eq_some_iff.mp h
    obtain ⟨z, h2, h⟩ := Option.bind_eq_some_iff.mp h
    cases h
    obtain ⟨ps, ks, e, hp, hk⟩ := pairs_dps g t h2
    unfold pairD at h1
    split at h1
    rotate_left
    · cases h1
    rename_i k x
    obtain ⟨kk, h3, h4⟩ := Option.map_eq_some_iff.mp h1
    cases h4
    cases r with
    | @tup l _ _ g1 g2 =>
      cases g2 with
      | @cons u _ _ _ r1 t1 =>
        cases t1 with
        | @cons y _ _ _ r2 t2 =>
          cases t2
          have eu : u = kV kk := keyD_ok (G := G) (H := H) (.inl r1) h3
          subst eu
          exact ⟨l :: ps, (kk, y) :: ks, by rw [e]; rfl, .cons (seqT_gh g g1.sq) hp, .cons ⟨rfl, r2⟩ hk⟩
theorem s_dictOf {x : Str} {p : Pos} (hc : X.calm = true) (hx : x = "dict") (hg : Gl X x) (hm : X.mg x = none) (ha : PE X a (tO X.K fa)) (hs : starEach [a] X.env = (false, eval a X.env) :: starEach [] X.env) : PE X (.Call (.Name x p) [a] [] pos) (tE X.K (fDictOf fa)) := by
  subst hx
  refine pe_weak (pe_callTy (callX_dictP hc) hg hm (by decide +kernel) (pa_cons ha pa_nil hs) (by decide) (by decide) hs) fun σ H Q ⟨G, en, sv, en', R, hf, k⟩ => ?_
  obtain ⟨⟨o1, en1⟩, h1, hf⟩ := Option.bind_eq_some_iff.mp hf
  obtain ⟨d1, e1, hf⟩ := Option.bind_eq_some_iff.mp hf
  obtain ⟨ds, e2, hf⟩ := Option.bind_eq_some_iff.mp hf
  obtain ⟨kvs, e3, hf⟩ := Option.bind_eq_some_iff.mp hf
  cases hf
  refine ⟨G, en, o1, _, R, h1, fun v1 G1 H1 s1 q1 => ?_⟩
  have z := lstV_ok e2
  subst z
  obtain ⟨l, vs, rfl, hl1, hd1⟩ := (rs_ok s1.rel q1 e1).lst s1.rel.gh
  obtain ⟨ps, ks, rfl, hp, hk⟩ := pairs_dps s1.rel.gh hd1 e3
  refine ⟨l, ps, ks, rfl, SqL.of hl1, hp, fun p o hpn => ?_⟩
  have pst : Pst G1 H1 (upd G1 p (.frz o (.dK (mergeK [] ks)))) (upd H1 p (.frz o (.dK (mergeK [] ks)))) := Pst.new s1.rel.gh hpn
  exact k _ _ _ (s1.trans (pst.stp s1.rel)) ⟨p, o, _, rfl, upd_same, (hk.merge .nil).ex pst.ex⟩
theorem kD_ok {G : Hp} (k : Key) : DP K G (kV k) (kD k) := by
  cases k with
  | inl i => exact .int i
  | inr s => exact .str s
theorem it_keys {d : Addr} {o : Obj} {ks : List (Key × V)} {kvs : List (Key × D)} {G : Hp} (h : G d = some (.frz o (.dK ks))) (hd : KD K G ks kvs) : ItOk K false (Itk d o ks) G (kvs.map fun kv => kD kv.1) := fun G2 H2 ex gh i => by
  have hh : H2 d = some (.frz o (.dK ks)) := by
    rcases gh _ _ (ex _ _ h) with z | ⟨_, _, q, _⟩
    · exact z
    · cases q
  have hl := hd.length
  refine ⟨fun x e => ?_, fun n => ⟨hh, by rw [List.length_map] at n; omega⟩⟩
  rw [List.getElem?_map] at e
  obtain ⟨⟨k, y⟩, e1, e2⟩ := Option.map_eq_some_iff.mp e
  subst e2
  obtain ⟨hi, _⟩ := List.getElem?_eq_some_iff.mp e1
  refine ⟨⟨hh, by omega⟩, fun x H3 yl => ?_⟩
  obtain ⟨rfl, k', v', e3, rfl⟩ := yl
  have hk : k' = k := by
    have : ∀ {ks : List (Key × V)} {kvs : List (Key × D)} {i : Nat}, KD K G ks kvs → ks[i]? = some (k', v') → kvs[i]? = some (k, y) → k' = k := by
      intro ks kvs i hd
      induction hd generalizing i with
      | nil => intro e; simp at e
      | cons r t ih =>
        intro e1 e2
        cases i with
        | zero => cases e1; cases e2; exact r.1
        | succ i => exact ih (by simpa using e1) (by simpa using e2)
    exact this hd e3 e1
  subst hk
  exact ⟨G2, Pst.refl gh, .inl (kD_ok _)⟩
theorem s_keys {i : Nat} (he : PE X e (tVar i)) : PI X tg e (tI X.K false (fKeys i)) := ⟨fun pins s σ H R I ⟨G, en, ds, en', RR, hf, k⟩ => by
  unfold fKeys at hf
  split at hf
  rotate_left
  · cases hf
  rename_i kvs q
  cases hf
  obtain ⟨v, hv, a, o, ks, rfl, g, hk⟩ := RR.slot _ _ q
  have hh : H a = some (.frz o (.dK ks)) := by
    rcases RR.gh _ _ g with z | ⟨_, _, q, _⟩
    · exact z
    · cases q
  exact (pi_keys (tg := tg) he).run pins s σ H R I ⟨_, hv, a, o, rfl, .inl ⟨ks, hh, k _ G H (Stp.refl RR) (it_keys g hk)⟩⟩⟩
end
end Pf

set_option maxHeartbeats 4000000
namespace Pf
open PySem PySem.Spec PyProof.Rows L2

/-! #### t[::-1] -/
section
variable {prog : Program} {w : World} {A : Around} {E : Value → Shared → Prop} {s : Shared}
theorem rev_pick (xs : Array Value) : ((List.range xs.size).filterMap fun (m : Nat) => xs[(((xs.size : Int) - 1) + (m : Int) * (-1)).toNat]?).toArray = xs.toList.reverse.toArray := by
  have e : ((List.range xs.size).filterMap fun (m : Nat) => xs[(((xs.size : Int) - 1) + (m : Int) * (-1)).toNat]?) = ((List.range xs.size).map fun k => xs.size - 1 - k).filterMap (xs[·]?) := by
    rw [List.filterMap_map]
    congr 1
    funext m
    show xs[_]? = xs[xs.size - 1 - m]?
    congr 1
    omega
  rw [e, PySem.W.krv_range, List.filterMap_reverse, PySem.W.krv_all]
theorem places_rev (n : Nat) : Builtin.Slice.slicePlaces ((n : Int) - 1) (-1) (-1) = n := by
  unfold Builtin.Slice.slicePlaces
  rw [if_neg (by decide)]
  by_cases h : (n : Int) - 1 > -1
  · rw [if_pos h]
    show (((n : Int) - 1 - -1 - 1) / (1 : Int) + 1).toNat = n
    rw [Int.ediv_one]
    omega
  · rw [if_neg h]
    show (0 : Int).toNat = n
    omega
theorem getItem_tuple_rev {t sl : Addr} {items : Array Value} {vs : Value} {Q : Value → Shared → Prop} (ht : IsTup s.heap t items) (hs : s.heap.IsSliceOf sl .none .none vs) (ps : IsPart vs (some (-1)))
    (h : Q (.ref s.heap.objs.size) { s with heap := s.heap.push { cls := .type "tuple", data := .seq items.toList.reverse.toArray } })
    (hsz : items.size ≤ sizeLine) : wpAny (model prog w) A (getItem (.ref t) (.ref sl)) Q E s := by
  have htake : sizeOk (.seq items.toList.reverse.toArray) := by
    show items.toList.reverse.toArray.size ≤ sizeLine
    rw [List.size_toArray, List.length_reverse, Array.length_toList]
    exact hsz
  obtain ⟨os, hos, hcs, hds⟩ := id hs
  have hTs : s.TypeIs (.ref sl) "slice" := ⟨os, hos, hcs⟩
  unfold getItem
  try with_reducible refine wpAny_holding ?_
  first | refine wpAny_bind (wpAny_pure ?_) | skip
  refine wpAny_bind (wpAny_sequenceKey ht.typeIs (by decide) ?_)
  refine wpAny_bind (wpAny_callSpecial?_slot (name := Str.ofString "__getitem__") ht.typeIs PyProof.Rows.slot_tuple_getitem
    (wpAny_call_entry PyProof.Rows.slot_tuple_getitem ht.typeIs PyProof.Rows.entry_tuple_getitem ?_ (PyProof.Rows.args_tuple_getitem _ _)))
  show wpAny _ _ (Builtin.Tuple.tupleItemsOf (.ref t) >>= _) _ _ s
  refine wpAny_bind (PyProof.Rows.tupleItemsOf_ ht ?_)
  refine wpAny_bind (wpAny_typeOf hTs ?_)
  rw [if_pos (by decide)]
  refine wpAny_bind ?_
  unfold Builtin.Slice.sliceApplied Builtin.Slice.sliceFields
  refine wpAny_bind (wpAny_bind (wpAny_field hos hds (x := .none) rfl (wpAny_bind (wpAny_field hos hds (x := .none) rfl (wpAny_bind (wpAny_field hos hds (x := vs) rfl (wpAny_pure ?_)))))))
  refine wpAny_bind (HT.slicePart_ ps ?_)
  show wpAny _ _ (if ((-1 : Int) == 0) = true then _ else _) _ _ s
  rw [if_neg (by decide)]
  refine wpAny_bind (HT.slicePart_ .none (wpAny_bind (HT.slicePart_ .none (wpAny_bind (wpAny_pure ?_)))))
  show wpAny _ _ (pure (((items.size : Int) - 1), (-1 : Int), Builtin.Slice.slicePlaces ((items.size : Int) - 1) (-1) (-1))) _ _ s
  rw [places_rev]
  refine wpAny_pure ?_
  have hno : ¬ ((((items.size : Int) - 1) == 0 && (-1 : Int) == 1 && items.size == items.size) = true) := by
    intro q
    rw [Bool.and_eq_true, Bool.and_eq_true] at q
    exact absurd q.1.2 (by decide)
  show wpAny _ _ (if (((items.size : Int) - 1) == 0 && (-1 : Int) == 1 && items.size == items.size) = true then _ else _) _ _ s
  rw [if_neg hno, rev_pick]
  first
    | exact wpAny_bind (m := Builtin.Tuple.tupleExact _) (wpAny_newObj_type (wpAny_pure ⟨_, rfl, wpAny_pure h⟩) htake)
    | exact wpAny_bind (m := Builtin.Tuple.tupleExact _) (wpAny_newObj_type (wpAny_bind (wpAny_pure (wpAny_pure ⟨_, rfl, wpAny_pure h⟩))) htake)
    | exact wpAny_bind (wpAny_bind (m := Builtin.Tuple.tupleExact _) (wpAny_newObj_type (wpAny_pure (wpAny_pure ⟨_, rfl, wpAny_pure h⟩)) htake))
    | exact wpAny_bind (wpAny_bind (m := Builtin.Tuple.tupleExact _) (wpAny_newObj_type (wpAny_pure ⟨_, rfl, wpAny_pure h⟩) htake))
end
def tRevT (K : PySem.W.Frag) (te : TE) : TE := fun σ H Q => te σ H fun x H1 => ∃ a xs, x = .ref a ∧ SqT K H1 a xs ∧ ∀ p its, H1 p = none → Q (.ref p) (upd H1 p (.frz (tupO its) (.tup xs.reverse)))
section
variable {X : Cx} {K : PySem.W.Frag}
theorem pe_revT {e : Expr} {te : TE} {k : Nat} {p1 p2 p3 pos : Pos} (he : PE X e te) : PE X (.Subscript e (.Slice none none (some (.UnaryOp .USub (.Constant (.int 1) k p1) p2)) p3) pos) (tRevT X.K te) := by
  refine ⟨fun pins s σ H Q I h => ?_⟩
  refine Subscript_ (thn (he.run pins s σ H _ I h) fun v s1 ⟨x, H1, I1, r1, q1⟩ => ?_)
  obtain ⟨a, xs, ex, hx, q⟩ := q1
  subst ex
  cases r1
  have hst : PO X (some (.UnaryOp .USub (.Constant (.int 1) k p1) p2)) (tPart (tUn (rU fun i => .int (-i)) (tC (.int 1)))) := po_some (pe_un un_neg pe_int)
  refine wpAny_Slice (thn (po_none.run pins s1 σ H1 (fun o H2 => o = none ∧ H2 = H1) I1 ⟨rfl, rfl⟩) fun vl s2 ⟨l, H2, I2, pl, el, e2⟩ => ?_)
  subst el e2
  refine thn (po_none.run pins s2 σ H2 (fun o H3 => o = none ∧ H3 = H2) I2 ⟨rfl, rfl⟩) fun vu s3 ⟨u, H3, I3, pu, eu, e3⟩ => ?_
  subst eu e3
  refine thn (hst.run pins s3 σ H3 (fun o H4 => o = some (-1) ∧ H4 = H3) I3 ⟨1, rfl, -1, rfl, rfl, rfl⟩) fun vs s4 ⟨o, H4, I4, ps, eo, e4⟩ => ?_
  subst eo e4
  have I5 : Inv X pins σ H4 { s4 with heap := s4.heap.push { cls := .type "slice", data := .fields #[vl, vu, vs] } } := I4.kept (t' := s4.toks) fun b ob q => Heap.get?_push_of_some _ q
  obtain ⟨its, r, ht, hz⟩ := I5.tuple hx
  have hlen := r.length
  show wpAny (model X.prog X.w) X.A (subscriptTail e (.Slice none none (some (.UnaryOp .USub (.Constant (.int 1) k p1) p2)) p3) (.ref a) (.ref s4.heap.objs.size)) (EP X pins σ Q) X.xe { s4 with heap := s4.heap.push { cls := .type "slice", data := .fields #[vl, vu, vs] } }
  have el : vl = .none := by cases pl; rfl
  have eu : vu = .none := by cases pu; rfl
  subst el eu
  refine tail_any (ops := [.ref a, .ref s4.heap.objs.size]) ht.typeIs (PyProof.Rows.slot_tuple_getitem.lookup) ?_ (by with_unfolding_all rfl)
  refine getItem_tuple_rev ht (Heap.IsSliceOf.new _ .none .none vs) ps ?_ (by rw [List.size_toArray]; omega)
  obtain ⟨I6, f⟩ := layT (tk := s4.toks) I5 (h' := s4.heap.push { cls := .type "slice", data := .fields #[.none, .none, vs] }) (fun _ _ e => e) (Nat.le_refl _) (its := its.reverse) (xs := xs.reverse) r.reverse (by rw [List.length_reverse]; exact hz)
  exact ⟨.ref _, _, I6, rfl, q _ _ f⟩
def revD : D → Option D
  | .list xs => some (.list xs.reverse)
  | .tuple xs => some (.tuple xs.reverse)
  | _ => none
def fRev (h : M SV) : M SV := fun en => (h en).bind fun p => (datS p.1).bind fun d => (revD d).bind fun r => some (.dat r, p.2)
theorem s_rev {e : Expr} {h : M SV} {k : Nat} {p1 p2 p3 pos : Pos} (he : PE X e (tE X.K h)) : PE X (.Subscript e (.Slice none none (some (.UnaryOp .USub (.Constant (.int 1) k p1) p2)) p3) pos) (tE X.K (fRev h)) := ⟨fun pins s σ H Q I ⟨G, en, sv, en', R, hf, kk⟩ => by
  obtain ⟨⟨sv1, en1⟩, h1, hf⟩ := Option.bind_eq_some_iff.mp hf
  obtain ⟨d, h2, hf⟩ := Option.bind_eq_some_iff.mp hf
  obtain ⟨r, h3, hf⟩ := Option.bind_eq_some_iff.mp hf
  cases hf
  have z : sv1 = .dat d := datS_ok h2
  subst z
  unfold revD at h3
  split at h3
  · cases h3
    refine (pe_revL he).run pins s σ H Q I ⟨G, en, _, en1, R, h1, fun v G1 H1 s1 rv => ?_⟩
    cases (show DP X.K G1 v (.list _) from rv) with
    | @lst a vs _ g1 g2 =>
      refine ⟨a, vs, rfl, SqL.of (s1.rel.gh.lst g1), fun p hp => ?_⟩
      have ps : Pst G1 H1 (upd G1 p (.lst vs.reverse)) (upd H1 p (.lst vs.reverse)) := Pst.new s1.rel.gh hp
      exact kk _ _ _ (s1.trans (ps.stp s1.rel)) (.lst upd_same (dps_ex ps.ex _ _ g2.reverse))
  · cases h3
    refine (pe_revT he).run pins s σ H Q I ⟨G, en, _, en1, R, h1, fun v G1 H1 s1 rv => ?_⟩
    cases (show DP X.K G1 v (.tuple _) from rv) with
    | @tup a vs _ g1 g2 =>
      refine ⟨a, vs, rfl, seqT_gh s1.rel.gh g1.sq, fun p its hp => ?_⟩
      have ps : Pst G1 H1 (upd G1 p (.frz (tupO its) (.tup vs.reverse))) (upd H1 p (.frz (tupO its) (.tup vs.reverse))) := Pst.new s1.rel.gh hp
      exact kk _ _ _ (s1.trans (ps.stp s1.rel)) (.tup (.inl ⟨its, upd_same⟩) (dps_ex ps.ex _ _ g2.reverse))
  · cases h3⟩
/-! #### range(a, b, -1) -/
def rngB (lo : Int) (n : Nat) : List D := (List.range n).map fun i : Nat => PyData.int (lo - (i : Int))
def int3 : List D → Option (Int × Int)
  | [.int i, .int j, .int c] => if c = -1 then some (i, j) else none
  | _ => none
theorem int3_ok {q : Int × Int} {ds : List D} (h : int3 ds = some q) : ds = [.int q.1, .int q.2, .int (-1)] := by
  unfold int3 at h
  split at h
  · split at h
    · rename_i hc
      subst hc
      cases h; rfl
    · cases h
  · cases h
def fRngB (fr : M (List Op)) : M (List D) := fun en => (fr en).bind fun p => (rsAll p.1 p.2).bind fun ds => (int3 ds).bind fun q => if -1000000 ≤ q.1 ∧ q.1 ≤ 1000000 ∧ -1000000 ≤ q.2 ∧ q.2 ≤ 1000000 then some (rngB q.1 (q.1 - q.2).toNat, p.2) else none
theorem it_rngB {G : Hp} {lo : Int} {n : Nat} : ItOk K false (Itc lo (-1) n) G (rngB lo n) := fun G2 H2 ex gh i => by
  refine ⟨fun d e => ?_, fun q => by unfold rngB at q; rw [List.length_map, List.length_range] at q; exact q⟩
  unfold rngB at e
  rw [List.getElem?_map] at e
  obtain ⟨j, e1, e2⟩ := Option.map_eq_some_iff.mp e
  obtain ⟨hi, e3⟩ := List.getElem?_eq_some_iff.mp e1
  rw [List.getElem_range] at e3
  subst e3 e2
  rw [List.length_range] at hi
  refine ⟨hi, fun x H3 y => ?_⟩
  obtain ⟨rfl, rfl⟩ := y
  refine ⟨G2, Pst.refl gh, .inl ?_⟩
  rw [show lo + ((i : Nat) : Int) * (-1) = lo - (i : Int) by omega]
  exact .int _
theorem s_rngB {a b c tg : Expr} {fr : M (List Op)} {x : Str} {p pos : Pos} (hx : x = "range") (hg : Gl X x) (hm : X.mg x = none) (ha : PA X [a, b, c] (tOs X.K fr)) (hs : starEach [a, b, c] X.env = (false, eval a X.env) :: starEach [b, c] X.env) (hpl : (backTo pos (starEach [b, c] X.env)).any (·.1) = false) :
    PI X tg (.Call (.Name x p) [a, b, c] [] pos) (tI X.K false (fRngB fr)) := by
  subst hx
  refine pi_weak (pi_range3 hg hm ha hs hpl) fun σ H R ⟨G, en, ds, en', RR, hf, k⟩ => ?_
  obtain ⟨⟨os, en1⟩, h1, hf⟩ := Option.bind_eq_some_iff.mp hf
  obtain ⟨dd, h2, hf⟩ := Option.bind_eq_some_iff.mp hf
  obtain ⟨q, h3, hf⟩ := Option.bind_eq_some_iff.mp hf
  split at hf
  · rename_i hl
    cases hf
    have z := int3_ok h3
    subst z
    refine ⟨G, en, os, _, RR, h1, fun vs G' H' st qq => ?_⟩
    have hv := rsAll_ok st.rel qq h2
    obtain ⟨v1, v2, v3, rfl, w1, w2, w3⟩ : ∃ v1 v2 v3, vs = [v1, v2, v3] ∧ VD X.K G' H' v1 (.int q.1) ∧ VD X.K G' H' v2 (.int q.2) ∧ VD X.K G' H' v3 (.int (-1)) := by
      cases hv with
      | cons r1 hv =>
        cases hv with
        | cons r2 hv =>
          cases hv with
          | cons r3 hv =>
            cases hv
            exact ⟨_, _, _, rfl, r1, r2, r3⟩
    exact ⟨q.1, q.2, -1, (q.1 - q.2).toNat, by rw [w1.int, w2.int, w3.int], RgC.neg (by omega) (by omega) (by omega) (by omega), k _ G' H' st it_rngB⟩
  · cases hf
/-! #### x.count(y) of data -/
def cntG (d k : D) : Option D := (seqV d).bind fun ds => if shp (.list ds) = true ∧ shp k = true then some (.int ((ds.countP fun y => PyData.eqv y k : Nat) : Int)) else none
def fCntG (fa fb : M Op) : M SV := fun en => (fa en).bind fun p => (rs p.1 p.2).bind fun d0 => (seqV d0).bind fun _ => (fb p.2).bind fun q => (rs p.1 q.2).bind fun d1 => (rs q.1 q.2).bind fun d2 => (cntG d1 d2).bind fun d => if (fCnt.isLst d0 == fCnt.isLst d1) = true then some (.dat d, q.2) else none
theorem plain_shp {ds : List D} (h : shp (.list ds) = true) : PyData.plainAll ds = true := by
  have h1 := PyData.plain_of_canLay0 _ (SeqAt.canLay_of_shaped h)
  unfold PyData.plain at h1
  exact h1
theorem s_cntG {e o : Expr} {apos cpos : Pos} {fa fb : M Op} (hu : X.A.units + 65 < cLine) (ha : PE X o (tO X.K fa)) (hb : PE X e (tO X.K fb)) (hbase : attributeBase o "count" X.env (eval o X.env) = eval o X.env)
    (hfew : ((backTo cpos (starEach [e] X.env)).all (fun x => !x.1) && (backToKw cpos (keywordEach [] X.env)).all (fun x => x.1.isSome) && decide (([e] : List Expr).length + ([] : List Keyword).length + (if ([] : List Keyword).isEmpty then 0 else 1) < 30)) = true)
    (hline : (apos.endLine == cpos.line) = true) (hs : starEach [e] X.env = (false, eval e X.env) :: starEach [] X.env) : PE X (.Call (.Attribute o "count" apos) [e] [] cpos) (tE X.K (fCntG fa fb)) := ⟨fun pins s σ H Q I ⟨G, en, sv, en', R, hf, k⟩ => by
  obtain ⟨⟨o1, en1⟩, h1, hf⟩ := Option.bind_eq_some_iff.mp hf
  obtain ⟨d0, h2, hf⟩ := Option.bind_eq_some_iff.mp hf
  obtain ⟨ds0, h3, hf⟩ := Option.bind_eq_some_iff.mp hf
  obtain ⟨⟨o2, en2⟩, h4, hf⟩ := Option.bind_eq_some_iff.mp hf
  obtain ⟨d1, h5, hf⟩ := Option.bind_eq_some_iff.mp hf
  obtain ⟨d2, h6, hf⟩ := Option.bind_eq_some_iff.mp hf
  obtain ⟨d, h7, hf⟩ := Option.bind_eq_some_iff.mp hf
  split at hf
  rotate_left
  · cases hf
  rename_i hsame
  cases hf
  obtain ⟨ds1, h8, h7⟩ := Option.bind_eq_some_iff.mp h7
  split at h7
  rotate_left
  · cases h7
  rename_i hsh
  cases h7
  have hpl := plain_shp hsh.1
  have hpk := PyData.plain_of_canLay0 _ (SeqAt.canLay_of_shaped hsh.2)
  have hdep := SeqAt.depth_of_shaped hsh.2
  refine wpAny_Call_method_late hbase hfew hline rfl (thn (ha.run pins s σ H (fun x H1 => ∃ G1, Stp X.K σ G H en σ G1 H1 en1 ∧ OR X.K G1 σ x o1) I ⟨G, en, o1, en1, R, h1, fun v1 G1 H1 s1 q1 => ⟨G1, s1, q1⟩⟩) fun v s1 ⟨x, H1, I1, r1, G1, st1, q1⟩ => ?_)
  have w0 := rs_ok st1.rel q1 h2
  have arg : wpAny (model X.prog X.w) X.A (spliced (backTo cpos (starEach [e] X.env))) (fun us s' => ∃ u H2 G2 w, us = [u] ∧ Inv X pins σ H2 s' ∧ RelV w u ∧ Stp X.K σ G1 H1 en1 σ G2 H2 en2 ∧ OR X.K G2 σ w o2) X.xe s1 := by
    refine thn ((pa_cons hb pa_nil hs).run cpos pins s1 σ H1 (fun vs H2 => ∃ G2 w, vs = [w] ∧ Stp X.K σ G1 H1 en1 σ G2 H2 en2 ∧ OR X.K G2 σ w o2) I1 ⟨G1, en1, o2, en2, st1.rel, h4, fun v2 G2 H2 s2 q2 => ⟨G2, v2, rfl, s2, q2⟩⟩) fun us s' ⟨vs, H2, I2, rv, G2, w, e, s2, q2⟩ => ?_
    subst e
    obtain ⟨u, e, ru⟩ := rv.one
    exact ⟨u, H2, G2, w, e, I2, ru, s2, q2⟩
  rw [hs] at arg ⊢
  rcases seqV_ok h3 with z | z
  · subst z
    obtain ⟨l, vs, rfl, hl, _⟩ := w0.lst st1.rel.gh
    obtain ⟨t1, t2⟩ := tyV_is (T := "list") I1 r1 (.inl ⟨rfl, vs, SqL.of hl⟩)
    cases r1
    refine ⟨"list", "list.count", PySem.F.plainAttrs_list, PySem.F.slot_list_count, PySem.F.type_list_count, t1, t2, ?_⟩
    refine Calls.callWith_builtin (by rfl) (Calls.evalArgs_plain (thn arg fun us s' ⟨u, H2, G2, w, e, I2, ru, s2, q2⟩ => ?_))
    subst e
    have w1 := rs_ok s2.rel (q1.ex s2.ex) h5
    have w2 := rs_ok s2.rel q2 h6
    obtain ⟨bs, rd2⟩ := Dp.reads I2 d2 w u (w2.dp s2.rel.gh) ru
    rcases seqV_ok h8 with z | z
    · subst z
      obtain ⟨as, rd1⟩ := Dp.reads I2 _ _ (Value.ref l) (w1.dp s2.rel.gh) rfl
      cases rd1 with
      | list g1 g2 g3 g4 =>
        obtain ⟨l', vs', e3, hl', hd⟩ := w1.lst s2.rel.gh
        cases e3
        obtain ⟨its, rv, il, _⟩ := I2.list (SqL.of (K := X.K) hl')
        obtain ⟨ob, gob, c1, n1, d1⟩ := il.isList
        rw [g1] at gob
        cases gob
        rw [g3] at d1
        cases d1
        exact SeqAt.count_list_data il.isList g4 rd2 hpl hpk (by omega) ⟨.int _, H2, I2.tok _, ⟨_, rfl⟩, k _ G2 H2 (st1.trans s2) (.int _)⟩
    · subst z
      cases hsame
  · subst z
    obtain ⟨l, vs, rfl, hx⟩ := w0.tupX
    obtain ⟨ob, g1, g2, g3, _⟩ := (tupX_gh st1.rel.gh hx).bare I1
    cases r1
    refine ⟨"tuple", "tuple.count", PySem.F.plainAttrs_tuple, PySem.F.slot_tuple_count, PySem.F.type_tuple_count, ⟨ob, g1, g2⟩, fun c z => by cases z; exact ⟨ob, g1, g3⟩, ?_⟩
    refine Calls.callWith_builtin (by rfl) (Calls.evalArgs_plain (thn arg fun us s' ⟨u, H2, G2, w, e, I2, ru, s2, q2⟩ => ?_))
    subst e
    have w1 := rs_ok s2.rel (q1.ex s2.ex) h5
    have w2 := rs_ok s2.rel q2 h6
    obtain ⟨bs, rd2⟩ := Dp.reads I2 d2 w u (w2.dp s2.rel.gh) ru
    rcases seqV_ok h8 with z | z
    · subst z
      cases hsame
    · subst z
      obtain ⟨as, rd1⟩ := Dp.reads I2 _ _ (Value.ref l) (w1.dp s2.rel.gh) rfl
      cases rd1 with
      | tuple g1 g2 g3 g4 =>
        exact SeqAt.count_tuple_data ⟨_, g1, g2, _, g3⟩ g4 rd2 hpl hpk (by omega) ⟨.int _, H2, I2.tok _, ⟨_, rfl⟩, k _ G2 H2 (st1.trans s2) (.int _)⟩⟩
end
end Pf

set_option maxHeartbeats 4000000
namespace Pf
open PySem L2

/-! ### a small syntax for it -/
mutual
inductive Tg where
  | name (i : Nat)
  | tup (n : Nat) (ts : Tgs)
inductive Tgs where
  | nil
  | cons (t : Tg) (r : Tgs)
end
mutual
inductive E where
  | lit (d : D)
  | glob (x : Str) (k : Nat)
  | var (i : Nat)
  | bin (o : Bin) (a b : O)
  | neg (a : O)
  | test (t : T)
  | ite (c : T) (a b : E)
  | at (a b : O)
  | atR (i : Nat) (b : O)
  | lenR (i : Nat)
  | atD (a b : O)
  | cut (a : O) (lo hi : P)
  | fn (g : Fn) (as : Os)
  | isi (t : Ty) (a : O)
  | cnt (a b : O)
  | alt (a b : E)
  | tup (as : Es)
  | tupOf (a : O)
  | call (x : Str) (f : Nat) (as : Es)
  | callW (x : Str) (f : Nat) (i : Nat) (as : Es)
  | fresh (l : L)
  | freshD (d : Dd)
  | dictOf (a : O)
  | rev (a : E)
  | cntG (a b : O)
inductive L where
  | disp (as : Es)
  | cat (a b : O)
  | rep (a b : O)
  | of (a : O)
  | ofR1 (a : O)
  | ofR2 (a b : O)
  | comp (elt : E) (tg : Tg) (it : I) (c : C) (own : List (Str × Nat))
inductive Dd where
  | disp (ps : Ps)
  | copy (a : O)
inductive Ps where
  | nil
  | cons (k : Key) (e : E) (r : Ps)
inductive O where
  | slot (i : Nat)
  | val (e : E)
inductive P where
  | no
  | yes (a : O)
inductive Os where
  | nil
  | cons (a : O) (r : Os)
inductive Es where
  | nil
  | cons (e : E) (r : Es)
inductive T where
  | cmp (o : Cm) (a b : O)
  | chain (o o' : Cm) (a b c : O)
  | and (ts : Ts)
  | or (ts : Ts)
  | not (t : T)
  | val (e : E)
inductive Ts where
  | one (t : T)
  | cons (t : T) (r : Ts)
inductive I where
  | seq (e : E)
  | rng1 (as : Os)
  | rng2 (as : Os)
  | zip (as : Es)
  | keys (i : Nat)
  | rngB (as : Os)
inductive C where
  | yes
  | one (t : T)
end
/-- the defs by number: how many arguments, the function -/
structure Sys where
  f : Nat → Nat × Fnc
  c : Nat → D
mutual
def evG : Tg → D → En → Option En
  | .name i => gN i
  | .tup n ts => gT (lenIs n (evGs ts))
def evGs : Tgs → List D → En → Option En
  | .nil => gs0
  | .cons t r => gsC (evG t) (evGs r)
end
mutual
def ixG : Tg → List Nat
  | .name i => [i]
  | .tup _ ts => ixGs ts
def ixGs : Tgs → List Nat
  | .nil => []
  | .cons t r => ixG t ++ ixGs r
end
mutual
def evE (Y : Sys) : E → M SV
  | .lit d => fLit d
  | .glob _ k => fLit (Y.c k)
  | .var i => fVar i
  | .bin o a b => fBin o (evO Y a) (evO Y b)
  | .neg a => fNeg (evO Y a)
  | .test t => fTest (evT Y t)
  | .ite c a b => fIte (evT Y c) (evE Y a) (evE Y b)
  | .at a b => fAt (evO Y a) (evO Y b)
  | .atR i b => fAtR i (evO Y b)
  | .lenR i => fLenR i
  | .atD a b => fAtD (evO Y a) (evO Y b)
  | .cut a lo hi => fCut (evO Y a) (evP Y lo) (evP Y hi)
  | .fn g as => fFn g (evOs Y as)
  | .isi t a => fIsi t (evO Y a)
  | .cnt a b => fCnt (evO Y a) (evO Y b)
  | .alt a b => fAlt (evE Y a) (evE Y b)
  | .tup as => fTup (evEs Y as)
  | .tupOf a => fTupOf (evO Y a)
  | .call _ f as => fCall (Y.f f).1 (Y.f f).2 (evEs Y as)
  | .callW _ f i as => fCallW (Y.f f).1 (Y.f f).2 i (evEs Y as)
  | .fresh l => fFresh (evL Y l)
  | .freshD d => fFreshD (evDd Y d)
  | .dictOf a => fDictOf (evO Y a)
  | .rev a => fRev (evE Y a)
  | .cntG a b => fCntG (evO Y a) (evO Y b)
def evL (Y : Sys) : L → M (List D)
  | .disp as => fDisp (evEs Y as)
  | .cat a b => fCatL (evO Y a) (evO Y b)
  | .rep a b => fRepL (evO Y a) (evO Y b)
  | .of a => fListOf (evO Y a)
  | .ofR1 a => fOfR1 (evO Y a)
  | .ofR2 a b => fOfR2 (evO Y a) (evO Y b)
  | .comp elt tg it c own => fComp (own.map (·.2)) (evI Y it) (evG tg) (evC Y c) (evE Y elt)
def evDd (Y : Sys) : Dd → M (List (Key × D))
  | .disp ps => fDict (evPs Y ps)
  | .copy a => fCopyD (evO Y a)
def evPs (Y : Sys) : Ps → List (Key × M SV)
  | .nil => []
  | .cons k e r => (k, evE Y e) :: evPs Y r
def evO (Y : Sys) : O → M Op
  | .slot i => fSlotC i
  | .val e => fVal (evE Y e)
def evP (Y : Sys) : P → M (Option Int)
  | .no => fNoPart
  | .yes a => fPart (evO Y a)
def evOs (Y : Sys) : Os → M (List Op)
  | .nil => fOs0
  | .cons a r => fOs (evO Y a) (evOs Y r)
def evEs (Y : Sys) : Es → M (List SV)
  | .nil => fVs0
  | .cons e r => fVs (evE Y e) (evEs Y r)
def evT (Y : Sys) : T → M Bool
  | .cmp o a b => fCmp o (evO Y a) (evO Y b)
  | .chain o o' a b c => fChain o o' (evO Y a) (evO Y b) (evO Y c)
  | .and ts => evTs Y true ts
  | .or ts => evTs Y false ts
  | .not t => fNot (evT Y t)
  | .val e => fBool (evE Y e)
def evTs (Y : Sys) (and : Bool) : Ts → M Bool
  | .one t => evT Y t
  | .cons t r => if and = true then fAnd (evT Y t) (evTs Y and r) else fOr (evT Y t) (evTs Y and r)
def evI (Y : Sys) : I → M (List D)
  | .seq e => fSeq (evE Y e)
  | .rng1 as => fRng1 (evOs Y as)
  | .rng2 as => fRng2 (evOs Y as)
  | .zip as => fZip (evEs Y as)
  | .keys i => fKeys i
  | .rngB as => fRngB (evOs Y as)
def evC (Y : Sys) : C → M Bool
  | .yes => fun en => some (true, en)
  | .one t => evT Y t
end

/-! #### what must be seen of the text -/
inductive GK where
  | blt
  | fn (j : Nat)
  | cst (k : Nat)
structure Sc where
  N : List Str
  sc : Scope
  raw : Option Scope
  gl : List (Str × GK)
def Sc.blk (S : Sc) (scope : Scope) : Sc := { S with sc := relS scope S.sc, raw := some scope }
def kindB : Option NameKind → NameKind → Bool
  | some a, b => decide (a = b)
  | none, _ => false
def visB (S : Sc) (i : Nat) (x : Str) : Bool := decide (S.N[i]? = some x) && (kindB (S.sc.names.lookup x) .local || kindB (S.sc.names.lookup x) .cell || kindB (S.sc.names.lookup x) .free) && !(x == ("__debug__" : Str)) && !(x == ("__classdict__" : Str))
def locB (S : Sc) (i : Nat) (x : Str) : Bool := decide (S.N[i]? = some x) && (kindB (S.sc.names.lookup x) .local || kindB (S.sc.names.lookup x) .cell) &&
  (match S.raw with
    | none => true
    | some r => (r.names.lookup x == some NameKind.cell) || kindB (S.sc.names.lookup x) .local)
def glB (S : Sc) (x : Str) : Bool := kindB (S.sc.names.lookup x) .globalImplicit
def isBlt : Option GK → Bool
  | some .blt => true
  | _ => false
def bltB (S : Sc) (x : Str) (y : Str) : Bool := decide (x = y) && glB S x && isBlt (S.gl.lookup x)
def fnB (S : Sc) (x y : Str) (f : Nat) : Bool := decide (x = y) && glB S x && !(x == ("__debug__" : Str)) && (match S.gl.lookup x with
  | some (.fn j) => decide (j = f)
  | _ => false)
def plE : Expr → Bool
  | .Starred _ _ => false
  | _ => true
def plIx : Expr → Bool
  | .Slice _ _ _ _ => false
  | _ => true
def plM : Expr → Bool
  | .Set _ _ _ => false
  | _ => true
def plT : Expr → Bool
  | .Name _ _ => true
  | .Call _ _ _ _ => true
  | .Subscript _ _ _ => true
  | .Constant _ _ _ => true
  | _ => false
def plA : Expr → Bool
  | .Name _ _ => true
  | .Subscript _ _ _ => true
  | .List _ _ => true
  | _ => false
theorem base_pl {o : Expr} {x : Str} {env : Env} (h : plA o = true) : attributeBase o x env (eval o env) = eval o env := by
  cases o <;> first | rfl | cases h
theorem few1_pl {e : Expr} {env : Env} {cpos : Pos} (h : plE e = true) (hs : starEach [e] env = (false, eval e env) :: starEach [] env) : ((backTo cpos (starEach [e] env)).all (fun x => !x.1) && (backToKw cpos (keywordEach [] env)).all (fun x => x.1.isSome)
      && decide (([e] : List Expr).length + ([] : List Keyword).length + (if ([] : List Keyword).isEmpty then 0 else 1) < 30)) = true := by
  rw [hs]; rfl
def plS : Expr → Bool
  | .ListComp _ _ _ _ => false
  | .SetComp _ _ _ _ => false
  | .DictComp _ _ _ _ _ => false
  | _ => true
theorem starEach_pl {e : Expr} {es : List Expr} {env : Env} (h : plE e = true) : starEach (e :: es) env = (false, eval e env) :: starEach es env := by
  cases e <;> first | rfl | cases h
theorem backTo_pl {pos : Pos} {env : Env} : ∀ {es : List Expr}, es.all plE = true → (backTo pos (starEach es env)).any (·.1) = false
  | [], _ => rfl
  | e :: es, h => by
    rw [List.all_cons, Bool.and_eq_true] at h
    rw [starEach_pl h.1]
    exact backTo_pl h.2
theorem ix_pl {e : Expr} (h : plIx e = true) : PlainIx e := by
  cases e <;> first | (intro o i; rfl) | cases h
theorem sl_pl {e : Expr} (h : plIx e = true) : NoSl e := by
  cases e <;> first | (intro o i; rfl) | cases h
theorem mark_pl {e : Expr} {o : CmpOp} (h : plM e = true) : behindInMarks o e = false := by
  cases e <;> first | rfl | cases h
theorem true_pl {e : Expr} {env : Env} (h : plT e = true) : ∀ whole, isTrue e env whole = (do let v ← whole; standAt e.pos; holding [v] (truthy v)) := by
  cases e <;> first | (intro _; rfl) | cases h
theorem swap_pl {e : Expr} {t : Option Expr} {l : Nat} {env : Env} (h : plS e = true) : swapsWith e t l env = pure false := by
  cases e <;> first | rfl | cases h
theorem fold_pl {e : Expr} {env : Env} (h : plM e = true) : ∀ x, foldedSetIterable e env x = pure x := by
  cases e <;> first | (intro _; rfl) | cases h
end Pf

set_option maxHeartbeats 4000000
namespace Pf
open PySem L2

mutual
def chkG : Tg → Sc → Expr → Bool
  | .name i => fun S e => match e with
    | .Name x _ => locB S i x
    | _ => false
  | .tup n ts => fun S e => match e with
    | .Tuple es _ _ => decide (es.length = n) && chkGs ts S es
    | _ => false
def chkGs : Tgs → Sc → List Expr → Bool
  | .nil => fun _ es => match es with
    | [] => true
    | _ => false
  | .cons t r => fun S es => match es with
    | e :: es => plE e && (chkG t S e && chkGs r S es)
    | [] => false
end
def cstB (c : Const) (d : D) : Bool := match c, d with
  | .none, .none => true
  | .bool b, .bool b' => decide (b = b')
  | .int i, .int j => decide (i = j)
  | .str s, .str t => decide (s = t)
  | _, _ => false
def gcB (S : Sc) (x : Str) (k : Nat) : Bool := match S.gl.lookup x with
  | some (.cst j) => decide (j = k)
  | _ => false
mutual
def chkE : E → Sc → Expr → Bool
  | .lit d => fun _ e => match e with
    | .Constant c _ _ => cstB c d
    | _ => false
  | .glob x k => fun S e => match e with
    | .Name y _ => decide (x = y) && (glB S y && (!(y == ("__debug__" : Str)) && gcB S y k))
    | _ => false
  | .var i => fun S e => match e with
    | .Name x _ => visB S i x
    | _ => false
  | .bin o a b => fun S e => match e with
    | .BinOp l op r _ => decide (o.op = op) && (chkO a S l && chkO b S r)
    | _ => false
  | .neg a => fun S e => match e with
    | .UnaryOp op x _ => decide (op = .USub) && chkO a S x
    | _ => false
  | .test t => fun S e => chkT t S e
  | .ite c a b => fun S e => match e with
    | .IfExp t x y _ => chkT c S t && (chkE a S x && chkE b S y)
    | _ => false
  | .at a b => fun S e => match e with
    | .Subscript o i _ => plIx i && (chkO a S o && chkO b S i)
    | _ => false
  | .atR j b => fun S e => match e with
    | .Subscript (.Name x _) i _ => plIx i && (visB S j x && chkO b S i)
    | _ => false
  | .lenR j => fun S e => match e with
    | .Call (.Name f _) [.Name x _] [] _ => bltB S f "len" && visB S j x
    | _ => false
  | .atD a b => fun S e => match e with
    | .Subscript o i _ => plIx i && (chkO a S o && chkO b S i)
    | _ => false
  | .cut a lo hi => fun S e => match e with
    | .Subscript o (.Slice l h none _) _ => chkO a S o && (chkP lo S l && chkP hi S h)
    | _ => false
  | .fn g as => fun S e => match e with
    | .Call (.Name f _) (x :: xs) [] _ => bltB S f g.name && (plE x && (xs.all plE && chkOs as S (x :: xs)))
    | _ => false
  | .isi t a => fun S e => match e with
    | .Call (.Name f _) [x, .Name y _] [] _ => bltB S f "isinstance" && (bltB S y (Str.ofString t.name) && (plE x && chkO a S x))
    | _ => false
  | .cnt a b => fun S e => match e with
    | .Call (.Attribute o m apos) [x] [] cpos => decide (m = "count") && (plA o && (plE x && ((apos.endLine == cpos.line) && (chkO a S o && chkO b S x))))
    | _ => false
  | .alt a b => fun S e => chkE a S e && chkE b S e
  | .tup as => fun S e => match e with
    | .Tuple xs _ _ => chkEs as S xs
    | _ => false
  | .tupOf a => fun S e => match e with
    | .Call (.Name f _) [x] [] _ => bltB S f "tuple" && (plE x && chkO a S x)
    | _ => false
  | .call x f as => fun S e => match e with
    | .Call (.Name y _) (z :: zs) [] _ => fnB S y x f && (plE z && (zs.all plE && chkEs as S (z :: zs)))
    | _ => false
  | .callW x f i as => fun S e => match e with
    | .Call (.Name y _) (.Name z _ :: zs) [] _ => fnB S y x f && (visB S i z && (zs.all plE && chkEs as S zs))
    | _ => false
  | .fresh l => fun S e => chkL l S e
  | .freshD d => fun S e => chkDd d S e
  | .dictOf a => fun S e => match e with
    | .Call (.Name f _) [x] [] _ => bltB S f "dict" && (plE x && chkO a S x)
    | _ => false
  | .rev a => fun S e => match e with
    | .Subscript o (.Slice none none (some (.UnaryOp .USub (.Constant (.int 1) _ _) _)) _) _ => chkE a S o
    | _ => false
  | .cntG a b => fun S e => match e with
    | .Call (.Attribute o m apos) [x] [] cpos => decide (m = "count") && (plA o && (plE x && ((apos.endLine == cpos.line) && (chkO a S o && chkO b S x))))
    | _ => false
def chkL : L → Sc → Expr → Bool
  | .disp as => fun S e => match e with
    | .List xs _ => chkEs as S xs
    | _ => false
  | .cat a b => fun S e => match e with
    | .BinOp l op r _ => decide (op = .Add) && (chkO a S l && chkO b S r)
    | _ => false
  | .rep a b => fun S e => match e with
    | .BinOp l op r _ => decide (op = .Mult) && (chkO a S l && chkO b S r)
    | _ => false
  | .of a => fun S e => match e with
    | .Call (.Name f _) [x] [] _ => bltB S f "list" && (plE x && chkO a S x)
    | _ => false
  | .ofR1 a => fun S e => match e with
    | .Call (.Name f _) [.Call (.Name r _) [x] [] _] [] _ => bltB S f "list" && (bltB S r "range" && (plE x && chkO a S x))
    | _ => false
  | .ofR2 a b => fun S e => match e with
    | .Call (.Name f _) [.Call (.Name r _) [x, y] [] _] [] _ => bltB S f "list" && (bltB S r "range" && (plE x && (plE y && (chkO a S x && chkO b S y))))
    | _ => false
  | .comp elt tg it c own => fun S e => match e with
    | .ListComp x [⟨t, i, ifs, a⟩] scope _ => decide (a = 0) && (blkC S.N S.sc scope own && ((ixG tg).all (fun j => decide (j ∈ own.map (·.2))) && (plM i && (chkI it S t i && (chkG tg (S.blk scope) t && (chkC c (S.blk scope) ifs && chkE elt (S.blk scope) x))))))
    | _ => false
def chkDd : Dd → Sc → Expr → Bool
  | .disp ps => fun S e => match e with
    | .Dict ks vs _ => !ks.isEmpty && (decide (ks.length ≤ 15) && chkPs ps S ks vs)
    | _ => false
  | .copy a => fun S e => match e with
    | .Call (.Name f _) [x] [] _ => bltB S f "dict" && (plE x && chkO a S x)
    | _ => false
def chkPs : Ps → Sc → List (Option Expr) → List Expr → Bool
  | .nil => fun _ ks vs => match ks, vs with
    | [], [] => true
    | _, _ => false
  | .cons k e r => fun S ks vs => match ks, vs with
    | some (.Constant c _ _) :: ks, v :: vs => (match c, k with
      | .int i, .inl j => decide (i = j)
      | .str i, .inr j => decide (i = j)
      | _, _ => false) && (chkE e S v && chkPs r S ks vs)
    | _, _ => false
def chkO : O → Sc → Expr → Bool
  | .slot i => fun S e => match e with
    | .Name x _ => visB S i x
    | _ => false
  | .val p => fun S e => chkE p S e
def chkP : P → Sc → Option Expr → Bool
  | .no => fun _ e => match e with
    | none => true
    | _ => false
  | .yes a => fun S e => match e with
    | some x => chkO a S x
    | none => false
def chkOs : Os → Sc → List Expr → Bool
  | .nil => fun _ es => match es with
    | [] => true
    | _ => false
  | .cons a r => fun S es => match es with
    | e :: es => plE e && (chkO a S e && chkOs r S es)
    | [] => false
def chkEs : Es → Sc → List Expr → Bool
  | .nil => fun _ es => match es with
    | [] => true
    | _ => false
  | .cons a r => fun S es => match es with
    | e :: es => plE e && (chkE a S e && chkEs r S es)
    | [] => false
def chkT : T → Sc → Expr → Bool
  | .cmp o a b => fun S e => match e with
    | .Compare l [op] [r] _ => decide (o.op = op) && (plM r && (chkO a S l && chkO b S r))
    | _ => false
  | .chain o o' a b c => fun S e => match e with
    | .Compare l [op, op'] [r, r'] _ => decide (o.op = op) && (decide (o'.op = op') && (plM r' && (chkO a S l && (chkO b S r && chkO c S r'))))
    | _ => false
  | .and ts => fun S e => match e with
    | .BoolOp op vs _ => decide (op = .And) && chkTs ts S vs
    | _ => false
  | .or ts => fun S e => match e with
    | .BoolOp op vs _ => decide (op = .Or) && chkTs ts S vs
    | _ => false
  | .not t => fun S e => match e with
    | .UnaryOp op x _ => decide (op = .Not) && chkT t S x
    | _ => false
  | .val p => fun S e => plT e && chkE p S e
def chkTs : Ts → Sc → List Expr → Bool
  | .one t => fun S vs => match vs with
    | [v] => chkT t S v
    | _ => false
  | .cons t r => fun S vs => match vs with
    | v :: w :: ws => chkT t S v && chkTs r S (w :: ws)
    | _ => false
def chkI : I → Sc → Expr → Expr → Bool
  | .seq p => fun S _ e => chkE p S e
  | .rng1 as => fun S _ e => match e with
    | .Call (.Name f _) [x] [] _ => bltB S f "range" && (plE x && chkOs as S [x])
    | _ => false
  | .rng2 as => fun S _ e => match e with
    | .Call (.Name f _) [x, y] [] _ => bltB S f "range" && (plE x && (plE y && chkOs as S [x, y]))
    | _ => false
  | .zip as => fun S t e => match t, e with
    | .Tuple _ _ _, .Call (.Name f _) [x, y] [] _ => bltB S f "zip" && (plE x && (plE y && chkEs as S [x, y]))
    | _, _ => false
  | .rngB as => fun S _ e => match e with
    | .Call (.Name f _) [x, y, z] [] _ => bltB S f "range" && (plE x && (plE y && (plE z && chkOs as S [x, y, z])))
    | _ => false
  | .keys i => fun S _ e => match e with
    | .Name x _ => visB S i x
    | _ => false
def chkC : C → Sc → List Expr → Bool
  | .yes => fun _ es => match es with
    | [] => true
    | _ => false
  | .one t => fun S es => match es with
    | [e] => chkT t S e
    | _ => false
end

/-! #### the context is as the look says -/
structure Good (Y : Sys) (S : Sc) (X : Cx) : Prop where
  hN : X.N = S.N
  nd : X.N.Nodup
  sc : X.env.scope = S.sc
  fn : ∀ x, X.fn x = (match S.raw with
    | none => true
    | some r => r.names.lookup x == some NameKind.cell)
  calm : X.calm = true
  room : Room 0 X.A
  blt : ∀ x, isBlt (S.gl.lookup x) = true → X.mg x = none
  cst : ∀ x k, S.gl.lookup x = some (.cst k) → ∃ u v, X.mg x = some u ∧ RelV v u ∧ ∀ G, DP X.K G v (Y.c k)
  fns : ∀ x j, S.gl.lookup x = some (.fn j) → ∃ f fd ps k, X.mg x = some (.ref f) ∧ PySem.W.keepIn X.K (.ref f) = true ∧ Binds X.K fd ps [] ∧ FnOk X.prog X.w X.K X.mg X.base CX0 k f fd ps (spD X.K (Y.f j).2 (Y.f j).1) ∧ Room k X.A
theorem kindB_ok {a : Option NameKind} {b : NameKind} (h : kindB a b = true) : a = some b := by
  cases a with
  | none => cases h
  | some k => exact congrArg some (of_decide_eq_true h)
section
variable {Y : Sys} {S : Sc} {X : Cx}
theorem Good.units (G : Good Y S X) : X.A.units + 65 < cLine := by have := G.room.un; omega
theorem Good.blk (G : Good Y S X) (scope : Scope) (s : Shared) (H : Hp) (cl : List (Str × Addr)) (c : Addr) (fp : List Addr) : Good Y (S.blk scope) (X.blk s H scope (compEnvC scope cl c X.env) fp) where
  hN := G.hN
  nd := G.nd
  sc := by show relS scope X.env.scope = relS scope S.sc; rw [G.sc]
  fn := fun _ => rfl
  calm := G.calm
  room := G.room
  blt := G.blt
  cst := G.cst
  fns := G.fns
theorem Good.vis (G : Good Y S X) {i : Nat} {x : Str} {pos : Pos} (h : visB S i x = true) : PE X (.Name x pos) (tVar i) := by
  unfold visB at h
  simp only [Bool.and_eq_true, Bool.or_eq_true, decide_eq_true_eq, Bool.not_eq_true'] at h
  obtain ⟨⟨⟨h1, h2⟩, h3⟩, h4⟩ := h
  refine pe_var (by rw [G.hN]; exact h1) ?_ h3 h4
  rcases h2 with (h2 | h2) | h2
  · exact .inl (by rw [G.sc]; exact kindB_ok h2)
  · exact .inr (.inl (by rw [G.sc]; exact kindB_ok h2))
  · exact .inr (.inr (by rw [G.sc]; exact kindB_ok h2))
theorem Good.loc (G : Good Y S X) {i : Nat} {x : Str} (h : locB S i x = true) : X.N[i]? = some x ∧ Loc X.env.scope x ∧ (X.fn x = true ∨ X.env.scope.names.lookup x = some .local) := by
  unfold locB at h
  simp only [Bool.and_eq_true, Bool.or_eq_true, decide_eq_true_eq] at h
  obtain ⟨⟨h1, h2⟩, h3⟩ := h
  refine ⟨by rw [G.hN]; exact h1, ?_, ?_⟩
  · rcases h2 with h2 | h2
    · exact .inl (by rw [G.sc]; exact kindB_ok h2)
    · exact .inr (by rw [G.sc]; exact kindB_ok h2)
  · rw [G.fn]
    cases hr : S.raw with
    | none => exact .inl rfl
    | some r =>
      rw [hr] at h3
      simp only [Bool.or_eq_true] at h3
      exact h3.imp id fun z => by rw [G.sc]; exact kindB_ok z
theorem Good.name (G : Good Y S X) {i : Nat} {x : Str} {pos : Pos} (h : locB S i x = true) : PG X (.Name x pos) (gName i) := by
  obtain ⟨h1, h2, h3⟩ := G.loc h
  exact pg_name G.nd h1 h2 h3
theorem Good.gl (G : Good Y S X) {x : Str} (h : glB S x = true) : Gl X x := by
  show X.env.scope.names.lookup x = _
  rw [G.sc]
  exact kindB_ok h
theorem Good.bl (G : Good Y S X) {x y : Str} (h : bltB S x y = true) : x = y ∧ Gl X x ∧ X.mg x = none := by
  unfold bltB at h
  simp only [Bool.and_eq_true, decide_eq_true_eq] at h
  exact ⟨h.1.1, G.gl h.1.2, G.blt x h.2⟩
theorem Good.fnc (G : Good Y S X) {x y : Str} {f : Nat} (h : fnB S x y f = true) : Gl X x ∧ (x == ("__debug__" : Str)) = false ∧
    ∃ a fd ps k, X.mg x = some (.ref a) ∧ PySem.W.keepIn X.K (.ref a) = true ∧ Binds X.K fd ps [] ∧ FnOk X.prog X.w X.K X.mg X.base CX0 k a fd ps (spD X.K (Y.f f).2 (Y.f f).1) ∧ Room k X.A := by
  unfold fnB at h
  simp only [Bool.and_eq_true, decide_eq_true_eq, Bool.not_eq_true'] at h
  obtain ⟨⟨⟨h1, h2⟩, h3⟩, h4⟩ := h
  refine ⟨G.gl h2, h3, ?_⟩
  split at h4
  · rename_i j hj
    have e : j = f := of_decide_eq_true h4
    subst e
    exact G.fns x j hj
  · cases h4
end
theorem evTs_pl : ∀ {ts : Ts} {S : Sc} {vs : List Expr}, chkTs ts S vs = true → ∃ v ws, vs = v :: ws
  | .one t, S, vs, h => by
    rw [chkTs] at h
    dsimp only at h
    split at h
    · exact ⟨_, _, rfl⟩
    · cases h
  | .cons t r, S, vs, h => by
    rw [chkTs] at h
    dsimp only at h
    split at h
    · exact ⟨_, _, rfl⟩
    · cases h
def isTup : Tg → Bool
  | .tup _ _ => true
  | _ => false
def weakI : I → Bool
  | .zip _ => true
  | _ => false
theorem weak_tup {it : I} {S S' : Sc} {t e : Expr} {tg : Tg} (h : chkI it S t e = true) (h' : chkG tg S' t = true) (z : weakI it = true) : isTup tg = true := by
  cases it with
  | zip as =>
    rw [chkI] at h
    dsimp only at h
    split at h
    · cases tg with
      | name i => rw [chkG] at h'; cases h'
      | tup _ _ => rfl
    · cases h
  | _ => cases z
mutual
theorem sG {Y : Sys} : ∀ (p : Tg) (S : Sc) (X : Cx), Good Y S X → ∀ (w : Bool), (w = true → isTup p = true) → ∀ e, chkG p S e = true → PG X e (tG X.K w (ixG p) (evG p))
  | .name i, S, X, G, w, hw, e, h => by
    have ew : w = false := by
      cases w with
      | true => cases hw rfl
      | false => rfl
    subst ew
    rw [chkG] at h
    dsimp only at h
    split at h
    · rw [ixG, evG]
      exact s_gN (G.name h)
    · cases h
  | .tup n ts, S, X, G, w, _, e, h => by
    rw [chkG] at h
    dsimp only at h
    split at h
    · rename_i es _ _
      simp only [Bool.and_eq_true, decide_eq_true_eq] at h
      rw [ixG, evG]
      obtain ⟨a1, a2, a3⟩ := sGs ts S X G es h.2
      exact s_gT G.calm a1 (by rw [a2]; exact h.1) a3
    · cases h
theorem sGs {Y : Sys} : ∀ (p : Tgs) (S : Sc) (X : Cx), Good Y S X → ∀ es, chkGs p S es = true → PGs X es (tGs X.K (ixGs p) (evGs p)) ∧ (assignEach es X.env).length = es.length ∧ (assignEach es X.env).findIdx? (·.1) = none
  | .nil, S, X, G, es, h => by
    rw [chkGs] at h
    dsimp only at h
    split at h
    · rw [ixGs, evGs]
      exact ⟨s_gs0, rfl, rfl⟩
    · cases h
  | .cons t r, S, X, G, es, h => by
    rw [chkGs] at h
    dsimp only at h
    split at h
    · rename_i e es
      simp only [Bool.and_eq_true] at h
      obtain ⟨a1, a2, a3⟩ := sGs r S X G es h.2.2
      have b := sG t S X G false (fun z => by cases z) e h.2.1
      have hs : assignEach (e :: es) X.env = (false, assign e X.env) :: assignEach es X.env := by
        have hp := h.1
        cases e <;> first | rfl | cases hp
      rw [ixGs, evGs]
      refine ⟨s_gsC b a1 (by rw [hs]; rfl), by rw [hs]; exact congrArg Nat.succ a2, ?_⟩
      rw [hs, List.findIdx?_cons, a3]
      rfl
    · cases h
end
end Pf

set_option maxHeartbeats 4000000
namespace Pf
open PySem L2

theorem cst_ok {X : Cx} {c : Const} {d : D} {k : Nat} {pos : Pos} (h : cstB c d = true) : PE X (.Constant c k pos) (tE X.K (fLit d)) := by
  unfold cstB at h
  split at h
  · exact s_lit pe_non fun _ => .non
  · cases of_decide_eq_true h; exact s_lit pe_bl fun _ => .bl _
  · cases of_decide_eq_true h; exact s_lit pe_int fun _ => .int _
  · cases of_decide_eq_true h; exact s_lit pe_str fun _ => .str _
  · cases h
theorem s_yes {X : Cx} : PTs X [] (tT X.K fun en => some (true, en)) := ⟨fun pins s σ H Q I ⟨G, en, c, en', R, hf, k⟩ => by
  cases hf
  exact pts_nil.run pins s σ H Q I (k G H (Stp.refl R))⟩
theorem lastM {o o' : CmpOp} {r r' : Expr} (h : plM r' = true) : lastMarks [o, o'] [r, r'] = false := by
  show behindInMarks o' r' = false
  exact mark_pl h
mutual
theorem sE {Y : Sys} : ∀ (p : E) (S : Sc) (X : Cx), Good Y S X → ∀ e, chkE p S e = true → PE X e (tE X.K (evE Y p))
  | .lit d, S, X, G, e, h => by
    rw [chkE] at h
    dsimp only at h
    split at h
    · rw [evE]; exact cst_ok h
    · cases h
  | .glob x k, S, X, G, e, h => by
    rw [chkE] at h
    dsimp only at h
    split at h
    · simp only [Bool.and_eq_true, decide_eq_true_eq, Bool.not_eq_true'] at h
      obtain ⟨h1, h2, h3, h4⟩ := h
      subst h1
      unfold gcB at h4
      split at h4
      · rename_i j hj
        have e : j = k := of_decide_eq_true h4
        subst e
        obtain ⟨u, v, m, r, d⟩ := G.cst _ _ hj
        rw [evE]
        exact s_lit (pe_glob (G.gl h2) m r h3) d
      · cases h4
    · cases h
  | .var i, S, X, G, e, h => by
    rw [chkE] at h
    dsimp only at h
    split at h
    · rw [evE]; exact s_var (G.vis h)
    · cases h
  | .bin o a b, S, X, G, e, h => by
    rw [chkE] at h
    dsimp only at h
    split at h
    · simp only [Bool.and_eq_true, decide_eq_true_eq] at h
      obtain ⟨h1, h2, h3⟩ := h
      subst h1
      rw [evE]; exact s_bin o (sO a S X G _ h2) (sO b S X G _ h3)
    · cases h
  | .neg a, S, X, G, e, h => by
    rw [chkE] at h
    dsimp only at h
    split at h
    · simp only [Bool.and_eq_true, decide_eq_true_eq] at h
      obtain ⟨h1, h2⟩ := h
      subst h1
      rw [evE]; exact s_neg (sO a S X G _ h2)
    · cases h
  | .test t, S, X, G, e, h => by
    rw [chkE] at h
    dsimp only at h
    rw [evE]; exact (sT t S X G e h).2
  | .ite c a b, S, X, G, e, h => by
    rw [chkE] at h
    dsimp only at h
    split at h
    · simp only [Bool.and_eq_true] at h
      obtain ⟨h1, h2, h3⟩ := h
      rw [evE]; exact s_ite (sT c S X G _ h1).1 (sE a S X G _ h2) (sE b S X G _ h3)
    · cases h
  | .at a b, S, X, G, e, h => by
    rw [chkE] at h
    dsimp only at h
    split at h
    · simp only [Bool.and_eq_true] at h
      obtain ⟨h1, h2, h3⟩ := h
      rw [evE]; exact s_at (sO a S X G _ h2) (sO b S X G _ h3) (ix_pl h1)
    · cases h
  | .atR j b, S, X, G, e, h => by
    rw [chkE] at h
    dsimp only at h
    split at h
    · simp only [Bool.and_eq_true] at h
      obtain ⟨h1, h2, h3⟩ := h
      rw [evE]; exact s_atR (G.vis h2) (sO b S X G _ h3) (ix_pl h1)
    · cases h
  | .lenR j, S, X, G, e, h => by
    rw [chkE] at h
    dsimp only at h
    split at h
    · simp only [Bool.and_eq_true] at h
      obtain ⟨h1, h2⟩ := h
      obtain ⟨b1, b2, b3⟩ := G.bl h1
      rw [evE]; exact s_lenR b1 b2 b3 (G.vis h2) rfl
    · cases h
  | .atD a b, S, X, G, e, h => by
    rw [chkE] at h
    dsimp only at h
    split at h
    · simp only [Bool.and_eq_true] at h
      obtain ⟨h1, h2, h3⟩ := h
      rw [evE]; exact s_atD (by have := G.units; omega) (sO a S X G _ h2) (sO b S X G _ h3) (sl_pl h1)
    · cases h
  | .cut a lo hi, S, X, G, e, h => by
    rw [chkE] at h
    dsimp only at h
    split at h
    · simp only [Bool.and_eq_true] at h
      obtain ⟨h1, h2, h3⟩ := h
      rw [evE]; exact s_cut (sO a S X G _ h1) (sP lo S X G _ h2) (sP hi S X G _ h3)
    · cases h
  | .fn g as, S, X, G, e, h => by
    rw [chkE] at h
    dsimp only at h
    split at h
    · simp only [Bool.and_eq_true] at h
      obtain ⟨h1, h2, h3, h4⟩ := h
      obtain ⟨b1, b2, b3⟩ := G.bl h1
      rw [evE]; exact s_fn g G.calm b1 b2 b3 (sOs as S X G _ h4) (starEach_pl h2) (backTo_pl h3)
    · cases h
  | .isi t a, S, X, G, e, h => by
    rw [chkE] at h
    dsimp only at h
    split at h
    · simp only [Bool.and_eq_true] at h
      obtain ⟨h1, h2, h3, h4⟩ := h
      obtain ⟨b1, b2, b3⟩ := G.bl h1
      obtain ⟨c1, c2, c3⟩ := G.bl h2
      rw [evE]; exact s_isi t b1 b2 b3 c1 c2 c3 (sO a S X G _ h4) (starEach_pl h3)
    · cases h
  | .cnt a b, S, X, G, e, h => by
    rw [chkE] at h
    dsimp only at h
    split at h
    · simp only [Bool.and_eq_true, decide_eq_true_eq] at h
      obtain ⟨h1, h2, h3, h4, h5, h6⟩ := h
      subst h1
      rw [evE]; exact s_cnt (sO a S X G _ h5) (sO b S X G _ h6) (base_pl h2) (few1_pl h3 (starEach_pl h3)) h4 (starEach_pl h3)
    · cases h
  | .alt a b, S, X, G, e, h => by
    rw [chkE] at h
    dsimp only at h
    simp only [Bool.and_eq_true] at h
    rw [evE]; exact s_alt (sE a S X G e h.1) (sE b S X G e h.2)
  | .tup as, S, X, G, e, h => by
    rw [chkE] at h
    dsimp only at h
    split at h
    · rw [evE]; exact s_tup (sEs as S X G _ h)
    · cases h
  | .tupOf a, S, X, G, e, h => by
    rw [chkE] at h
    dsimp only at h
    split at h
    · simp only [Bool.and_eq_true] at h
      obtain ⟨h1, h2, h3⟩ := h
      obtain ⟨b1, b2, b3⟩ := G.bl h1
      rw [evE]; exact s_tupOf b1 b2 b3 (sO a S X G _ h3) (starEach_pl h2)
    · cases h
  | .call x f as, S, X, G, e, h => by
    rw [chkE] at h
    dsimp only at h
    split at h
    · simp only [Bool.and_eq_true] at h
      obtain ⟨h1, h2, h3, h4⟩ := h
      obtain ⟨b1, b2, a, fd, ps, k, m, kp, bb, F, r⟩ := G.fnc h1
      rw [evE]; exact s_call F r b1 m kp bb (sEs as S X G _ h4) b2 (starEach_pl h2) (backTo_pl h3)
    · cases h
  | .callW x f i as, S, X, G, e, h => by
    rw [chkE] at h
    dsimp only at h
    split at h
    · simp only [Bool.and_eq_true] at h
      obtain ⟨h1, h2, h3, h4⟩ := h
      obtain ⟨b1, b2, a, fd, ps, k, m, kp, bb, F, r⟩ := G.fnc h1
      rw [evE]; exact s_callW F r b1 m kp bb (G.vis h2) (sEs as S X G _ h4) b2 rfl (backTo_pl h3)
    · cases h
  | .fresh l, S, X, G, e, h => by
    rw [chkE] at h
    dsimp only at h
    rw [evE]; exact s_fresh (sL l S X G e h)
  | .freshD d, S, X, G, e, h => by
    rw [chkE] at h
    dsimp only at h
    rw [evE]; exact s_freshD (sDd d S X G e h) fun _ _ _ q => q
  | .dictOf a, S, X, G, e, h => by
    rw [chkE] at h
    dsimp only at h
    split at h
    · simp only [Bool.and_eq_true] at h
      obtain ⟨h1, h2, h3⟩ := h
      obtain ⟨b1, b2, b3⟩ := G.bl h1
      rw [evE]; exact s_dictOf G.calm b1 b2 b3 (sO a S X G _ h3) (starEach_pl h2)
    · cases h
  | .rev a, S, X, G, e, h => by
    rw [chkE] at h
    dsimp only at h
    split at h
    · rw [evE]; exact s_rev (sE a S X G _ h)
    · cases h
  | .cntG a b, S, X, G, e, h => by
    rw [chkE] at h
    dsimp only at h
    split at h
    · simp only [Bool.and_eq_true, decide_eq_true_eq] at h
      obtain ⟨h1, h2, h3, h4, h5, h6⟩ := h
      subst h1
      rw [evE]; exact s_cntG G.units (sO a S X G _ h5) (sO b S X G _ h6) (base_pl h2) (few1_pl h3 (starEach_pl h3)) h4 (starEach_pl h3)
    · cases h
theorem sL {Y : Sys} : ∀ (p : L) (S : Sc) (X : Cx), Good Y S X → ∀ e, chkL p S e = true → PE X e (tN X.K (evL Y p))
  | .disp as, S, X, G, e, h => by
    rw [chkL] at h
    dsimp only at h
    split at h
    · rw [evL]; exact s_disp (sEs as S X G _ h)
    · cases h
  | .cat a b, S, X, G, e, h => by
    rw [chkL] at h
    dsimp only at h
    split at h
    · simp only [Bool.and_eq_true, decide_eq_true_eq] at h
      obtain ⟨h1, h2, h3⟩ := h
      subst h1
      rw [evL]; exact s_catL (sO a S X G _ h2) (sO b S X G _ h3)
    · cases h
  | .rep a b, S, X, G, e, h => by
    rw [chkL] at h
    dsimp only at h
    split at h
    · simp only [Bool.and_eq_true, decide_eq_true_eq] at h
      obtain ⟨h1, h2, h3⟩ := h
      subst h1
      rw [evL]; exact s_repL (sO a S X G _ h2) (sO b S X G _ h3)
    · cases h
  | .of a, S, X, G, e, h => by
    rw [chkL] at h
    dsimp only at h
    split at h
    · simp only [Bool.and_eq_true] at h
      obtain ⟨h1, h2, h3⟩ := h
      obtain ⟨b1, b2, b3⟩ := G.bl h1
      rw [evL]; exact s_listOf b1 b2 b3 (sO a S X G _ h3) (starEach_pl h2)
    · cases h
  | .ofR1 a, S, X, G, e, h => by
    rw [chkL] at h
    dsimp only at h
    split at h
    · simp only [Bool.and_eq_true] at h
      obtain ⟨h1, h2, h3, h4⟩ := h
      obtain ⟨b1, b2, b3⟩ := G.bl h1
      obtain ⟨c1, c2, c3⟩ := G.bl h2
      rw [evL]; exact s_ofR1 G.calm b1 b2 b3 c1 c2 c3 (sO a S X G _ h4) (starEach_pl h3)
    · cases h
  | .ofR2 a b, S, X, G, e, h => by
    rw [chkL] at h
    dsimp only at h
    split at h
    · simp only [Bool.and_eq_true] at h
      obtain ⟨h1, h2, h3, h4, h5, h6⟩ := h
      obtain ⟨b1, b2, b3⟩ := G.bl h1
      obtain ⟨c1, c2, c3⟩ := G.bl h2
      rw [evL]; exact s_ofR2 G.calm b1 b2 b3 c1 c2 c3 (sO a S X G _ h5) (sO b S X G _ h6) (starEach_pl h3) (starEach_pl h4) (backTo_pl (by rw [List.all_cons, h4]; rfl))
    · cases h
  | .comp elt tg it c own, S, X, G, e, h => by
    rw [chkL] at h
    dsimp only at h
    split at h
    · simp only [Bool.and_eq_true, decide_eq_true_eq] at h
      obtain ⟨h0, h1, h2, h3, h4, h5, h6, h7⟩ := h
      subst h0
      rw [evL]
      refine pe_weak (pe_lc (own := own) G.calm G.nd (sI it S X G _ _ h4) (by rw [G.hN, G.sc]; exact blkOk_by h1) (fun s H C cl fp => sG tg _ _ (G.blk _ s H cl C fp) _ (weak_tup h4 h5) _ h5) (fun s H C cl fp => sC c _ _ (G.blk _ s H cl C fp) _ h6)
        (fun s H C cl fp => sE elt _ _ (G.blk _ s H cl C fp) _ h7) (fold_pl h3)) (lc_read fun i hi => ?_)
      exact of_decide_eq_true (List.all_eq_true.mp h2 i hi)
    · cases h
theorem sDd {Y : Sys} : ∀ (p : Dd) (S : Sc) (X : Cx), Good Y S X → ∀ e, chkDd p S e = true → PE X e (tDn X.K (evDd Y p))
  | .disp ps, S, X, G, e, h => by
    rw [chkDd] at h
    dsimp only at h
    split at h
    · rename_i ks vs pos
      simp only [Bool.and_eq_true, decide_eq_true_eq, Bool.not_eq_true'] at h
      obtain ⟨h1, h2, h3⟩ := h
      obtain ⟨a1, a2, a3, a4⟩ := sPs ps S X G ks vs pos h3
      rw [evDd]
      refine pe_weak (pe_disp a1 a3 a2 ?_ h2) (dict_read _ (by rw [a4]; exact h2))
      rintro rfl
      cases h1
    · cases h
  | .copy a, S, X, G, e, h => by
    rw [chkDd] at h
    dsimp only at h
    split at h
    · simp only [Bool.and_eq_true] at h
      obtain ⟨h1, h2, h3⟩ := h
      obtain ⟨b1, b2, b3⟩ := G.bl h1
      rw [evDd]; exact s_copyD b1 b2 b3 (sO a S X G _ h3) (starEach_pl h2)
    · cases h
theorem sPs {Y : Sys} : ∀ (p : Ps) (S : Sc) (X : Cx), Good Y S X → ∀ ks vs pos, chkPs p S ks vs = true → PPs X pos ks vs ((evPs Y p).map fun q => (tC (kV q.1), tE X.K q.2)) ∧ ks.length = vs.length ∧ ks.all (·.isSome) = true ∧ (evPs Y p).length = ks.length
  | .nil, S, X, G, ks, vs, pos, h => by
    rw [chkPs] at h
    dsimp only at h
    split at h
    · rw [evPs]; exact ⟨pps_nil, rfl, rfl, rfl⟩
    · cases h
  | .cons k e r, S, X, G, ks, vs, pos, h => by
    rw [chkPs] at h
    dsimp only at h
    split at h
    · rename_i c n q ks v vs
      simp only [Bool.and_eq_true] at h
      obtain ⟨h1, h2, h3⟩ := h
      obtain ⟨a1, a2, a3, a4⟩ := sPs r S X G ks vs pos h3
      rw [evPs]
      refine ⟨?_, congrArg Nat.succ a2, by rw [List.all_cons, a3]; rfl, congrArg Nat.succ a4⟩
      refine pps_cons ?_ (sE e S X G _ h2) a1
      split at h1
      · cases of_decide_eq_true h1; exact pe_int
      · cases of_decide_eq_true h1; exact pe_str
      · cases h1
    · cases h
theorem sO {Y : Sys} : ∀ (p : O) (S : Sc) (X : Cx), Good Y S X → ∀ e, chkO p S e = true → PE X e (tO X.K (evO Y p))
  | .slot i, S, X, G, e, h => by
    rw [chkO] at h
    dsimp only at h
    split at h
    · rw [evO]; exact s_slot (G.vis h)
    · cases h
  | .val q, S, X, G, e, h => by
    rw [chkO] at h
    dsimp only at h
    rw [evO]; exact s_val (sE q S X G e h)
theorem sP {Y : Sys} : ∀ (p : P) (S : Sc) (X : Cx), Good Y S X → ∀ e, chkP p S e = true → PO X e (tPt X.K (evP Y p))
  | .no, S, X, G, e, h => by
    rw [chkP] at h
    dsimp only at h
    split at h
    · rw [evP]; exact s_noPart
    · cases h
  | .yes a, S, X, G, e, h => by
    rw [chkP] at h
    dsimp only at h
    split at h
    · rw [evP]; exact s_part (sO a S X G _ h)
    · cases h
theorem sOs {Y : Sys} : ∀ (p : Os) (S : Sc) (X : Cx), Good Y S X → ∀ es, chkOs p S es = true → PA X es (tOs X.K (evOs Y p))
  | .nil, S, X, G, es, h => by
    rw [chkOs] at h
    dsimp only at h
    split at h
    · rw [evOs]; exact s_os0
    · cases h
  | .cons a r, S, X, G, es, h => by
    rw [chkOs] at h
    dsimp only at h
    split at h
    · simp only [Bool.and_eq_true] at h
      obtain ⟨h1, h2, h3⟩ := h
      rw [evOs]; exact s_os (sO a S X G _ h2) (sOs r S X G _ h3) (starEach_pl h1)
    · cases h
theorem sEs {Y : Sys} : ∀ (p : Es) (S : Sc) (X : Cx), Good Y S X → ∀ es, chkEs p S es = true → PA X es (tVs X.K (evEs Y p))
  | .nil, S, X, G, es, h => by
    rw [chkEs] at h
    dsimp only at h
    split at h
    · rw [evEs]; exact s_vs0
    · cases h
  | .cons a r, S, X, G, es, h => by
    rw [chkEs] at h
    dsimp only at h
    split at h
    · simp only [Bool.and_eq_true] at h
      obtain ⟨h1, h2, h3⟩ := h
      rw [evEs]; exact s_vs (sE a S X G _ h2) (sEs r S X G _ h3) (starEach_pl h1)
    · cases h
theorem sT {Y : Sys} : ∀ (p : T) (S : Sc) (X : Cx), Good Y S X → ∀ e, chkT p S e = true → PT X e (tT X.K (evT Y p)) ∧ PE X e (tE X.K (fTest (evT Y p)))
  | .cmp o a b, S, X, G, e, h => by
    rw [chkT] at h
    dsimp only at h
    split at h
    · simp only [Bool.and_eq_true, decide_eq_true_eq] at h
      obtain ⟨h1, h2, h3, h4⟩ := h
      subst h1
      rw [evT]
      exact ⟨s_cmpT o G.units (sO a S X G _ h3) (sO b S X G _ h4) (mark_pl h2), s_cmp o G.units (sO a S X G _ h3) (sO b S X G _ h4) (mark_pl h2)⟩
    · cases h
  | .chain o o' a b c, S, X, G, e, h => by
    rw [chkT] at h
    dsimp only at h
    split at h
    · simp only [Bool.and_eq_true, decide_eq_true_eq] at h
      obtain ⟨h1, h2, h3, h4, h5, h6⟩ := h
      subst h1 h2
      rw [evT]
      exact ⟨s_chainT o o' G.units (sO a S X G _ h4) (sO b S X G _ h5) (sO c S X G _ h6) (lastM h3), s_chain o o' G.units (sO a S X G _ h4) (sO b S X G _ h5) (sO c S X G _ h6) (lastM h3)⟩
    · cases h
  | .and ts, S, X, G, e, h => by
    rw [chkT] at h
    dsimp only at h
    split at h
    · simp only [Bool.and_eq_true, decide_eq_true_eq] at h
      obtain ⟨h1, h2⟩ := h
      subst h1
      obtain ⟨q1, q2⟩ := (sTs ts S X G _ h2).1 _
      rw [evT]
      exact ⟨q1.pt, q2⟩
    · cases h
  | .or ts, S, X, G, e, h => by
    rw [chkT] at h
    dsimp only at h
    split at h
    · simp only [Bool.and_eq_true, decide_eq_true_eq] at h
      obtain ⟨h1, h2⟩ := h
      subst h1
      obtain ⟨q1, q2⟩ := (sTs ts S X G _ h2).2 _
      rw [evT]
      exact ⟨q1.pt, q2⟩
    · cases h
  | .not t, S, X, G, e, h => by
    rw [chkT] at h
    dsimp only at h
    split at h
    · simp only [Bool.and_eq_true, decide_eq_true_eq] at h
      obtain ⟨h1, h2⟩ := h
      subst h1
      rw [evT]
      exact ⟨s_notT (sT t S X G _ h2).1, s_notE (sT t S X G _ h2).2⟩
    · cases h
  | .val q, S, X, G, e, h => by
    rw [chkT] at h
    dsimp only at h
    simp only [Bool.and_eq_true] at h
    obtain ⟨h1, h2⟩ := h
    rw [evT]
    exact ⟨s_valT (sE q S X G e h2) (true_pl h1), s_valE (sE q S X G e h2)⟩
theorem sTs {Y : Sys} : ∀ (p : Ts) (S : Sc) (X : Cx), Good Y S X → ∀ vs, chkTs p S vs = true →
    (∀ pos, PW X (.BoolOp .And vs pos) (tT X.K (evTs Y true p)) ∧ PE X (.BoolOp .And vs pos) (tE X.K (fTest (evTs Y true p)))) ∧
    (∀ pos, PW X (.BoolOp .Or vs pos) (tT X.K (evTs Y false p)) ∧ PE X (.BoolOp .Or vs pos) (tE X.K (fTest (evTs Y false p))))
  | .one t, S, X, G, vs, h => by
    rw [chkTs] at h
    dsimp only at h
    split at h
    · obtain ⟨a, b⟩ := sT t S X G _ h
      rw [evTs, evTs]
      exact ⟨fun pos => ⟨pw_and1 a, pe_one b⟩, fun pos => ⟨pw_or1 a, pe_one b⟩⟩
    · cases h
  | .cons t r, S, X, G, vs, h => by
    rw [chkTs] at h
    dsimp only at h
    split at h
    · simp only [Bool.and_eq_true] at h
      obtain ⟨h1, h2⟩ := h
      obtain ⟨a, b⟩ := sT t S X G _ h1
      obtain ⟨c, d⟩ := sTs r S X G _ h2
      rw [evTs, evTs, if_pos rfl, if_neg Bool.false_ne_true]
      exact ⟨fun pos => ⟨s_andT a (c pos).1, s_andE b (c pos).2⟩, fun pos => ⟨s_orT a (d pos).1, s_orE b (d pos).2⟩⟩
    · cases h
theorem sI {Y : Sys} : ∀ (p : I) (S : Sc) (X : Cx), Good Y S X → ∀ t e, chkI p S t e = true → PI X t e (tI X.K (weakI p) (evI Y p))
  | .seq q, S, X, G, t, e, h => by
    rw [chkI] at h
    dsimp only at h
    rw [evI]; exact s_seq (sE q S X G e h)
  | .rng1 as, S, X, G, t, e, h => by
    rw [chkI] at h
    dsimp only at h
    split at h
    · simp only [Bool.and_eq_true] at h
      obtain ⟨h1, h2, h3⟩ := h
      obtain ⟨b1, b2, b3⟩ := G.bl h1
      rw [evI]; exact s_rng1 b1 b2 b3 (sOs as S X G _ h3) (starEach_pl h2)
    · cases h
  | .rng2 as, S, X, G, t, e, h => by
    rw [chkI] at h
    dsimp only at h
    split at h
    · simp only [Bool.and_eq_true] at h
      obtain ⟨h1, h2, h3, h4⟩ := h
      obtain ⟨b1, b2, b3⟩ := G.bl h1
      rw [evI]; exact s_rng2 b1 b2 b3 (sOs as S X G _ h4) ((starEach_pl h2).trans (congrArg _ (starEach_pl h3))) (starEach_pl h3)
    · cases h
  | .zip as, S, X, G, t, e, h => by
    rw [chkI] at h
    dsimp only at h
    split at h
    · simp only [Bool.and_eq_true] at h
      obtain ⟨h1, h2, h3, h4⟩ := h
      obtain ⟨b1, b2, b3⟩ := G.bl h1
      rw [evI]; exact s_zip b1 b2 b3 (sEs as S X G _ h4) (starEach_pl h2) (backTo_pl (by rw [List.all_cons, h3]; rfl))
    · cases h
  | .rngB as, S, X, G, t, e, h => by
    rw [chkI] at h
    dsimp only at h
    split at h
    · simp only [Bool.and_eq_true] at h
      obtain ⟨h1, h2, h3, h4, h5⟩ := h
      obtain ⟨b1, b2, b3⟩ := G.bl h1
      rw [evI]; exact s_rngB b1 b2 b3 (sOs as S X G _ h5) (starEach_pl h2) (backTo_pl (by rw [List.all_cons, List.all_cons, h3, h4]; rfl))
    · cases h
  | .keys i, S, X, G, t, e, h => by
    rw [chkI] at h
    dsimp only at h
    split at h
    · rw [evI]; exact s_keys (G.vis h)
    · cases h
theorem sC {Y : Sys} : ∀ (p : C) (S : Sc) (X : Cx), Good Y S X → ∀ es, chkC p S es = true → PTs X es (tT X.K (evC Y p))
  | .yes, S, X, G, es, h => by
    rw [chkC] at h
    dsimp only at h
    split at h
    · rw [evC]; exact s_yes
    · cases h
  | .one t, S, X, G, es, h => by
    rw [chkC] at h
    dsimp only at h
    split at h
    · rw [evC]; exact pts_one (sT t S X G _ h).1
    · cases h
end
end Pf

set_option maxHeartbeats 4000000
namespace Pf
open PySem L2

/-! ### statements -/
inductive Ws where
  | nil
  | val (e : E) (r : Ws)
  | own (l : L) (r : Ws)
mutual
inductive S where
  | ret (e : E)
  | ife (t : T) (a b : B)
  | for (tg : Tg) (it : I) (b : B)
  | whl (t : T) (b : B)
  | asg (i : Nat) (e : E)
  | asgL (i : Nat) (l : L)
  | asgD (i : Nat) (d : Dd)
  | asgT (tg : Tg) (e : E)
  | par (is : List Nat) (ws : Ws)
  | app (i : Nat) (e : E)
  | ext (i : Nat) (e : E)
  | setI (i : Nat) (k : O) (e : E)
  | augL (i : Nat) (k v : O)
  | add (i : Nat) (v : O)
  | sub (i : Nat) (v : O)
  | putD (i : Nat) (k : O) (e : E)
  | augD (i : Nat) (k v : O)
  | brk
  | cont
  | pass
  | drop (e : E)
inductive B where
  | nil
  | cons (s : S) (r : B)
end
def evWs (Y : Sys) : Ws → M (List WI)
  | .nil => fW0
  | .val e r => fWv (evE Y e) (evWs Y r)
  | .own l r => fWl (evL Y l) (evWs Y r)
mutual
def evS (Y : Sys) : S → MS
  | .ret e => fRet (evE Y e)
  | .ife t a b => fIf (evT Y t) (evB Y a) (evB Y b)
  | .for tg it b => fFor (evI Y it) (evG tg) (evB Y b)
  | .whl t b => loopW (evT Y t) (evB Y b) bigN
  | .asg i e => fAsg i (evE Y e)
  | .asgL i l => fAsgL i (evL Y l)
  | .asgD i d => fAsgD i (evDd Y d)
  | .asgT tg e => fAsgT (evG tg) (evE Y e)
  | .par is ws => fPar is (evWs Y ws)
  | .app i e => fApp i (evE Y e)
  | .ext i e => fExt i (evE Y e)
  | .setI i k e => fSetI i (evO Y k) (evE Y e)
  | .augL i k v => fAugL i (evO Y k) (evO Y v)
  | .add i v => fAugI i (fun x y => x + y) (evO Y v)
  | .sub i v => fAugI i (fun x y => x - y) (evO Y v)
  | .putD i k e => fPutD i (evO Y k) (evE Y e)
  | .augD i k v => fAugD i (evO Y k) (evO Y v)
  | .brk => fun en => some (.brk, en)
  | .cont => fun en => some (.cont, en)
  | .pass => fNext
  | .drop e => fDrop (evE Y e)
def evB (Y : Sys) : B → MS
  | .nil => fNext
  | .cons s r => fSeq2 (evS Y s) (evB Y r)
end
/-! #### the text -/
def notLcl (sc : Scope) : Expr → Bool
  | .Name x _ => !(kindB (sc.names.lookup x) .local)
  | _ => true
def noSwB (sc : Scope) (tg e : Expr) : Bool := match e with
  | .Tuple vs _ _ => match tg with
    | .Tuple ts _ _ => !(ts.length == 2 || ts.length == 3) || vs.all (foldedForSure 8) || ts.any (notLcl sc)
    | .List _ _ => false
    | _ => true
  | _ => true
theorem sw_none {tg e : Expr} {env : Env} (h : noSwB env.scope tg e = true) : swappedStores [tg] e env = pure none := by
  cases e with
  | Tuple vs k p =>
    cases tg with
    | Tuple ts k' p' =>
      simp only [noSwB, Bool.or_eq_true] at h
      unfold swappedStores
      dsimp only
      rcases h with (h | h) | h
      · rw [h]; rfl
      · rw [h]
        simp only [if_true]
        repeat' (first | rfl | split)
      · have hn : (List.filterMap (fun x : Expr => match x with
            | .Name id pos => if (env.kindOf id == some .local && pos.line == ((ts.head?.map (·.pos.line)).getD 0)) = true then some id else none
            | _ => none) ts).length ≠ ts.length := by
          obtain ⟨t, ht, hb⟩ := List.any_eq_true.mp h
          refine Nat.ne_of_lt (List.length_filterMap_lt_length_iff_exists.mpr ⟨t, ht, ?_⟩)
          cases t with
          | Name x p =>
            have hk : (env.kindOf x == some .local) = false := by
              simp only [notLcl, Bool.not_eq_true'] at hb
              refine Bool.eq_false_iff.mpr fun z => ?_
              have z' : env.scope.names.lookup x = some .local := eq_of_beq z
              rw [z'] at hb
              cases hb
            simp [hk]
          | _ => rfl
        split
        · rfl
        · split
          · rfl
          · rw [if_pos]
            simp only [Bool.or_eq_true, bne_iff_ne]
            exact .inl hn
    | List _ _ => cases h
    | _ => rfl
  | _ => cases tg <;> rfl
def funB (s : Scope) : Bool := match s.kind with
  | .function => true
  | _ => false
theorem funB_ok {s : Scope} (h : funB s = true) : s.kind = .function := by
  unfold funB at h
  split at h
  · assumption
  · cases h
theorem bk {env : Env} (h : env.scope.kind = .function) : env.blockKind = .function := by unfold Env.blockKind; rw [h]; rfl
theorem ko {env : Env} {x : Str} (h : env.scope.names.lookup x = some .local) : env.kindOf x = some .local := h
theorem star_any : ∀ {es : List Expr}, es.all plE = true → (es.any fun | .Starred .. => true | _ => false) = false
  | [], _ => rfl
  | e :: es, h => by
    rw [List.all_cons, Bool.and_eq_true] at h
    rw [List.any_cons, star_any h.2, Bool.or_false]
    have h1 := h.1
    cases e <;> first | rfl | exact nomatch h1
theorem ne_tt {b : Bool} (h : b = false) : ¬ b = true := by rw [h]; exact Bool.false_ne_true
theorem sw2 {x y : Str} {px py kt pt a b k2 pt2} {env : Env} (hk : env.scope.kind = .function) (hx : env.scope.names.lookup x = some .local) (hy : env.scope.names.lookup y = some .local) (hne : x ≠ y) (hl : py.line = px.line) (pa : [a, b].all plE = true)
    (h1 : [a, b].all (foldedForSure 8) = false) (h2 : [a, b].all (constantsAlone 8) = false) : swappedStores [.Tuple [.Name x px, .Name y py] kt pt] (.Tuple [a, b] k2 pt2) env = pure (some [x, y]) := by
  have hn : ¬ (y = x) := fun e => hne e.symm
  unfold swappedStores
  dsimp only
  refine (if_neg (by simp [bk hk])).trans ((if_neg (ne_tt (star_any pa))).trans ?_)
  refine (if_neg (by simp [ko hx, ko hy, hl, Expr.pos, List.eraseDups_cons, hn, hne])).trans ((if_neg (ne_tt h1)).trans ((if_neg (ne_tt h2)).trans ?_))
  simp [ko hx, ko hy, hl, Expr.pos]
theorem sw3 {x y z : Str} {px py pz kt pt a b c k2 pt2} {env : Env} (hk : env.scope.kind = .function) (hx : env.scope.names.lookup x = some .local) (hy : env.scope.names.lookup y = some .local) (hz : env.scope.names.lookup z = some .local) (hne : x ≠ y) (hxz : x ≠ z) (hyz : y ≠ z)
    (hl : py.line = px.line) (hl' : pz.line = px.line) (pa : [a, b, c].all plE = true)
    (h1 : [a, b, c].all (foldedForSure 8) = false) (h2 : [a, b, c].all (constantsAlone 8) = false) : swappedStores [.Tuple [.Name x px, .Name y py, .Name z pz] kt pt] (.Tuple [a, b, c] k2 pt2) env = pure (some [x, y, z]) := by
  have hn : ¬ (y = x) := fun e => hne e.symm
  have hn1 : ¬ (z = x) := fun e => hxz e.symm
  have hn2 : ¬ (z = y) := fun e => hyz e.symm
  unfold swappedStores
  dsimp only
  refine (if_neg (by simp [bk hk])).trans ((if_neg (ne_tt (star_any pa))).trans ?_)
  refine (if_neg (by simp [ko hx, ko hy, ko hz, hl, hl', Expr.pos, List.eraseDups_cons, hn, hne, hn1, hn2, hxz, hyz])).trans ((if_neg (ne_tt h1)).trans ((if_neg (ne_tt h2)).trans ?_))
  simp [ko hx, ko hy, ko hz, hl, hl', Expr.pos]
def lcSw (S : Sc) (x : Str) (py : Pos) (scope : Scope) (pos : Pos) : Bool := kindB (S.sc.names.lookup x) .local && (py.line == pos.line) && !(scope.names.any fun (n, k) => n == x && (k == .local || k == .cell))
theorem sw_lcF {elt : Expr} {gs : List Comprehension} {scope : Scope} {pos py : Pos} {y : Str} {l : Nat} {env : Env} (h : (decide (env.scope.names.lookup y = some .local) && (py.line == pos.line) && !(scope.names.any fun (n, k) => n == y && (k == .local || k == .cell))) = false) :
    swapsWith (.ListComp elt gs scope pos) (some (.Name y py)) l env = pure false := by
  show pure _ = pure _
  congr 1
  have e : (env.kindOf y == some .local) = decide (env.scope.names.lookup y = some .local) := by
    by_cases z : env.scope.names.lookup y = some .local
    · rw [decide_eq_true z]; exact beq_iff_eq.mpr z
    · rw [decide_eq_false z]; exact beq_eq_false_iff_ne.mpr z
  show ((env.blockKind == .function) && (env.kindOf y == some .local) && (py.line == pos.line) && !_) = false
  rw [e, Bool.and_assoc, Bool.and_assoc]
  rw [Bool.and_assoc] at h
  rw [h, Bool.and_false]
end Pf

set_option maxHeartbeats 4000000
namespace Pf
open PySem L2

def lclB (S : Sc) (i : Nat) (x : Str) : Bool := decide (S.N[i]? = some x) && kindB (S.sc.names.lookup x) .local
def chkWs : Ws → Sc → List Expr → Bool
  | .nil => fun _ es => match es with
    | [] => true
    | _ => false
  | .val a r => fun S es => match es with
    | e :: es => plE e && (chkE a S e && chkWs r S es)
    | [] => false
  | .own a r => fun S es => match es with
    | e :: es => plE e && (chkL a S e && chkWs r S es)
    | [] => false
def lcAs (i : Nat) (l : L) (S : Sc) (x : Str) (py : Pos) (e : Expr) : Bool := match l, e with
  | .comp elt tg it c own, .ListComp y [⟨t, it', ifs, a⟩] scope pos => decide (a = 0) && (blkC S.N S.sc scope own && ((ixG tg).all (fun j => decide (j ∈ own.map (·.2))) && (plM it' && (chkI it S t it' && (chkG tg (S.blk scope) t && (chkC c (S.blk scope) ifs && chkE elt (S.blk scope) y))))))
      && (if lcSw S x py scope pos = true then funB S.sc && lclB S i x else locB S i x)
  | _, _ => plS e && (locB S i x && chkL l S e)
mutual
def chkS : S → Sc → Stmt → Bool
  | .ret e => fun S st => match st with
    | .Return (some x) _ => chkE e S x
    | _ => false
  | .ife t a b => fun S st => match st with
    | .If c xs ys _ => chkT t S c && (chkB a S xs && chkB b S ys)
    | _ => false
  | .for tg it b => fun S st => match st with
    | .For g i xs [] _ => plM i && (chkI it S g i && (chkG tg S g && chkB b S xs))
    | _ => false
  | .whl t b => fun S st => match st with
    | .While c xs [] _ => chkT t S c && chkB b S xs
    | _ => false
  | .asg i e => fun S st => match st with
    | .Assign [.Name x _] v _ => plS v && (locB S i x && chkE e S v)
    | _ => false
  | .asgL i l => fun S st => match st with
    | .Assign [.Name x p] v _ => lcAs i l S x p v
    | _ => false
  | .asgD i d => fun S st => match st with
    | .Assign [.Name x _] v _ => plS v && (locB S i x && chkDd d S v)
    | _ => false
  | .asgT tg e => fun S st => match st with
    | .Assign [g] v _ => plS v && (plE g && (noSwB S.sc g v && (chkG tg S g && chkE e S v)))
    | _ => false
  | .par is ws => fun S st => match st with
    | .Assign [.Tuple [.Name x px, .Name y py] _ _] (.Tuple [a, b] _ _) _ => (match is with
      | [i, j] => decide (i ≠ j) && (funB S.sc && (lclB S i x && (lclB S j y && (decide (x ≠ y) && (decide (py.line = px.line) && ([a, b].all plE && (!([a, b].all (foldedForSure 8)) && (!([a, b].all (constantsAlone 8)) && chkWs ws S [a, b]))))))))
      | _ => false)
    | .Assign [.Tuple [.Name x px, .Name y py, .Name z pz] _ _] (.Tuple [a, b, c] _ _) _ => (match is with
      | [i, j, k] => decide (i ≠ j) && (decide (i ≠ k) && (decide (j ≠ k) && (funB S.sc && (lclB S i x && (lclB S j y && (lclB S k z && (decide (x ≠ y) && (decide (x ≠ z) && (decide (y ≠ z) && (decide (py.line = px.line) && (decide (pz.line = px.line) &&
        ([a, b, c].all plE && (!([a, b, c].all (foldedForSure 8)) && (!([a, b, c].all (constantsAlone 8)) && chkWs ws S [a, b, c]))))))))))))))
      | _ => false)
    | _ => false
  | .app i e => fun S st => match st with
    | .Expr (.Call (.Attribute (.Name x _) a apos) [v] [] cpos) _ => decide (a = "append") && (visB S i x && (plE v && ((apos.endLine == cpos.line) && chkE e S v)))
    | _ => false
  | .ext i e => fun S st => match st with
    | .Expr (.Call (.Attribute (.Name x _) a apos) [v] [] cpos) _ => decide (a = "extend") && (visB S i x && (plE v && ((apos.endLine == cpos.line) && chkE e S v)))
    | _ => false
  | .setI i k e => fun S st => match st with
    | .Assign [.Subscript (.Name x _) y _] v _ => plS v && (plIx y && (visB S i x && (chkO k S y && chkE e S v)))
    | _ => false
  | .augL i k b => fun S st => match st with
    | .AugAssign (.Subscript (.Name x _) y _) op v _ => decide (op = .Add) && (plIx y && (visB S i x && (chkO k S y && chkO b S v)))
    | _ => false
  | .add i b => fun S st => match st with
    | .AugAssign (.Name x _) op v _ => decide (op = .Add) && (locB S i x && chkO b S v)
    | _ => false
  | .sub i b => fun S st => match st with
    | .AugAssign (.Name x _) op v _ => decide (op = .Sub) && (locB S i x && chkO b S v)
    | _ => false
  | .putD i k e => fun S st => match st with
    | .Assign [.Subscript (.Name x _) y _] v _ => plS v && (visB S i x && (chkO k S y && chkE e S v))
    | _ => false
  | .augD i k b => fun S st => match st with
    | .AugAssign (.Subscript (.Name x _) y _) op v _ => decide (op = .Add) && (plIx y && (visB S i x && (chkO k S y && chkO b S v)))
    | _ => false
  | .brk => fun _ st => match st with
    | .Break _ => true
    | _ => false
  | .cont => fun _ st => match st with
    | .Continue _ => true
    | _ => false
  | .pass => fun _ st => match st with
    | .Pass _ => true
    | _ => false
  | .drop e => fun S st => match st with
    | .Expr x _ => plS x && chkE e S x
    | _ => false
def chkB : B → Sc → List Stmt → Bool
  | .nil => fun _ sts => match sts with
    | [] => true
    | _ => false
  | .cons s r => fun S sts => match sts with
    | st :: sts => chkS s S st && chkB r S sts
    | [] => false
end
theorem Good.lcl {Y : Sys} {S : Sc} {X : Cx} (G : Good Y S X) {i : Nat} {x : Str} (h : lclB S i x = true) : X.N[i]? = some x ∧ X.env.scope.names.lookup x = some .local := by
  unfold lclB at h
  simp only [Bool.and_eq_true, decide_eq_true_eq] at h
  exact ⟨by rw [G.hN]; exact h.1, by rw [G.sc]; exact kindB_ok h.2⟩
def lenW : Ws → Nat
  | .nil => 0
  | .val _ r => lenW r + 1
  | .own _ r => lenW r + 1
theorem evWs_len {Y : Sys} : ∀ (p : Ws) {en en' : En} {os : List WI}, evWs Y p en = some (os, en') → os.length = lenW p
  | .nil, _, _, _, h => by cases h; rfl
  | .val e r, _, _, _, h => by
    obtain ⟨⟨o1, en1⟩, h1, hf⟩ := Option.bind_eq_some_iff.mp h
    obtain ⟨⟨o2, en2⟩, h2, hf⟩ := Option.bind_eq_some_iff.mp hf
    cases hf
    exact congrArg Nat.succ (evWs_len r h2)
  | .own e r, _, _, _, h => by
    obtain ⟨⟨o1, en1⟩, h1, hf⟩ := Option.bind_eq_some_iff.mp h
    obtain ⟨⟨o2, en2⟩, h2, hf⟩ := Option.bind_eq_some_iff.mp hf
    cases hf
    exact congrArg Nat.succ (evWs_len r h2)
theorem chkWs_len : ∀ (p : Ws) (S : Sc) (es : List Expr), chkWs p S es = true → lenW p = es.length
  | .nil, S, es, h => by
    rw [chkWs] at h
    dsimp only at h
    split at h
    · rfl
    · cases h
  | .val a r, S, es, h => by
    rw [chkWs] at h
    dsimp only at h
    split at h
    · simp only [Bool.and_eq_true] at h
      exact congrArg Nat.succ (chkWs_len r S _ h.2.2)
    · cases h
  | .own a r, S, es, h => by
    rw [chkWs] at h
    dsimp only at h
    split at h
    · simp only [Bool.and_eq_true] at h
      exact congrArg Nat.succ (chkWs_len r S _ h.2.2)
    · cases h
theorem sWs {Y : Sys} : ∀ (p : Ws) (S : Sc) (X : Cx), Good Y S X → ∀ es, chkWs p S es = true → PA X es (tW X.K (evWs Y p))
  | .nil, S, X, G, es, h => by
    rw [chkWs] at h
    dsimp only at h
    split at h
    · exact s_w0
    · cases h
  | .val a r, S, X, G, es, h => by
    rw [chkWs] at h
    dsimp only at h
    split at h
    · simp only [Bool.and_eq_true] at h
      exact s_wv (sE a S X G _ h.2.1) (sWs r S X G _ h.2.2) (starEach_pl h.1)
    · cases h
  | .own a r, S, X, G, es, h => by
    rw [chkWs] at h
    dsimp only at h
    split at h
    · simp only [Bool.and_eq_true] at h
      exact s_wl (sL a S X G _ h.2.1) (fun _ _ _ h => h) (sWs r S X G _ h.2.2) (starEach_pl h.1)
    · cases h
theorem sub_pl {o i : Expr} {pos : Pos} {env : Env} (h : plIx i = true) : ∀ v, assign (.Subscript o i pos) env v = (do
      let ov ← holding [v] (eval o env)
      let iv ← holding [v, ov] (eval i env)
      standAt pos
      holding [v, ov, iv] (setItem ov iv v)
      release [v, ov, iv] []) := by
  cases i <;> first | (intro v; rfl) | cases h
theorem aug_pl {i : Expr} (h : plIx i = true) : ∀ ov iv new, augStore i ov iv new = (do holding [new, ov, iv] (setItem ov iv new); release [new, ov, iv] []; pure .next) := by
  cases i <;> first | (intro _ _ _; rfl) | cases h
theorem one_pl {e : Expr} {env : Env} (h : plE e = true) : (assignEach [e] env).map (·.2) = [assign e env] := by
  cases e <;> first | rfl | cases h
theorem par2 {X : Cx} {Y : Sys} {ws : Ws} {i j : Nat} (hl : lenW ws = 2) : ∀ (D : Ends) (σ : L2.St) (H : Hp), tW X.K (evWs Y ws) σ H (fun vs H1 => vs.length = [i, j].length → D.nx (setVs [i, j] vs σ) H1) → tPar i j (tW X.K (evWs Y ws)) D σ H := fun D σ H ⟨G, en, os, en', R, hf, k⟩ =>
  ⟨G, en, os, en', R, hf, fun vs G' H' s q => by
    have h1 := k vs G' H' s q
    have h2 := q.length.trans ((evWs_len ws hf).trans hl)
    match vs, h2, h1 with
    | [v, w], _, h1 => exact ⟨v, w, rfl, h1 rfl⟩⟩
theorem par3 {X : Cx} {Y : Sys} {ws : Ws} {i j l : Nat} (hl : lenW ws = 3) : ∀ (D : Ends) (σ : L2.St) (H : Hp), tW X.K (evWs Y ws) σ H (fun vs H1 => vs.length = [i, j, l].length → D.nx (setVs [i, j, l] vs σ) H1) → tPar3 i j l (tW X.K (evWs Y ws)) D σ H := fun D σ H ⟨G, en, os, en', R, hf, k⟩ =>
  ⟨G, en, os, en', R, hf, fun vs G' H' s q => by
    have h1 := k vs G' H' s q
    have h2 := q.length.trans ((evWs_len ws hf).trans hl)
    match vs, h2, h1 with
    | [v, w, u], _, h1 => exact ⟨v, w, u, rfl, h1 rfl⟩⟩
theorem swapS_pl {t e : Expr} {l : Nat} {env : Env} (h : plS e = true) : swapsWithSole [t] e l env = pure false := swap_pl (t := some t) h
theorem noS {sc : Scope} {a b : Expr} {p : Pos} (e : Expr) : noSwB sc (.Subscript a b p) e = true := by cases e <;> rfl
theorem never {X : Cx} (hx : X.xe = fun _ _ => False) : PassesOwn (model X.prog X.w) X.A X.env X.xe := by rw [hx]; exact PassesOwn.never
theorem few_pl {e : Expr} {env : Env} {cpos : Pos} (h : plE e = true) : ((backTo cpos (starEach [e] env)).all (fun x => !x.1) && (backToKw cpos (keywordEach [] env)).all (fun x => x.1.isSome)
      && decide (([e] : List Expr).length + ([] : List Keyword).length + (if ([] : List Keyword).isEmpty then 0 else 1) < 30)) = true := by
  rw [starEach_pl h]; rfl
mutual
theorem sS {Y : Sys} : ∀ (p : S) (S : Sc) (X : Cx), Good Y S X → (X.xe = fun _ _ => False) → ∀ st, chkS p S st = true → PS X st (tS X.K (evS Y p))
  | .ret e, S, X, G, hx, st, h => by
    rw [chkS] at h
    dsimp only at h
    split at h
    · rw [evS]; exact s_ret (sE e S X G _ h)
    · cases h
  | .ife t a b, S, X, G, hx, st, h => by
    rw [chkS] at h
    dsimp only at h
    split at h
    · simp only [Bool.and_eq_true] at h
      rw [evS]; exact s_if (sT t S X G _ h.1).1 (sB a S X G hx _ h.2.1) (sB b S X G hx _ h.2.2)
    · cases h
  | .for tg it b, S, X, G, hx, st, h => by
    rw [chkS] at h
    dsimp only at h
    split at h
    · simp only [Bool.and_eq_true] at h
      obtain ⟨h1, h2, h3, h4⟩ := h
      rw [evS]; exact s_for (never hx) G.calm (sI it S X G _ _ h2) (sG tg S X G _ (weak_tup h2 h3) _ h3) (sB b S X G hx _ h4) (fold_pl h1)
    · cases h
  | .whl t b, S, X, G, hx, st, h => by
    rw [chkS] at h
    dsimp only at h
    split at h
    · simp only [Bool.and_eq_true] at h
      rw [evS]; exact s_while (never hx) (sT t S X G _ h.1).1 (sB b S X G hx _ h.2)
    · cases h
  | .asg i e, S, X, G, hx, st, h => by
    rw [chkS] at h
    dsimp only at h
    split at h
    · simp only [Bool.and_eq_true] at h
      obtain ⟨h1, h2, h3⟩ := h
      obtain ⟨a1, a2, a3⟩ := G.loc h2
      rw [evS]; exact s_asg (ps_set G.nd a1 a2 (sE e S X G _ h3) (swap_pl h1) a3) fun _ _ _ h => h
    · cases h
  | .asgL i l, S, X, G, hx, st, h => by
    rw [chkS] at h
    dsimp only at h
    split at h
    · rename_i x p v pos
      unfold lcAs at h
      split at h
      · rename_i elt tg it c own y t it' ifs a scope lpos
        simp only [Bool.and_eq_true, decide_eq_true_eq] at h
        obtain ⟨⟨h0, h1, h2, h3, h4, h5, h6, h7⟩, h8⟩ := h
        subst h0
        rw [evS, evL]
        have hb : BlkOk X.N X.env.scope scope own := by rw [G.hN, G.sc]; exact blkOk_by h1
        have hi : ∀ i ∈ ixG tg, i ∈ own.map (·.2) := fun i hi => of_decide_eq_true (List.all_eq_true.mp h2 i hi)
        by_cases hs : lcSw S x p scope lpos = true
        · rw [if_pos hs] at h8
          simp only [Bool.and_eq_true] at h8
          obtain ⟨a1, a2⟩ := G.lcl h8.2
          unfold lcSw at hs
          simp only [Bool.and_eq_true, Bool.not_eq_true'] at hs
          refine s_asgL (ps_setLc (own := own) G.calm G.nd a1 a2 (sw_true (by rw [G.sc]; exact funB_ok h8.1) a2 hs.1.2 hs.2) (sI it S X G _ _ h4) hb (fun s H C cl fp => sG tg _ _ (G.blk _ s H cl C fp) _ (weak_tup h4 h5) _ h5) (fun s H C cl fp => sC c _ _ (G.blk _ s H cl C fp) _ h6)
            (fun s H C cl fp => sE elt _ _ (G.blk _ s H cl C fp) _ h7) (fold_pl h3)) (lc_read hi)
        · rw [if_neg hs] at h8
          obtain ⟨a1, a2, a3⟩ := G.loc h8
          refine s_asgL (ps_set G.nd a1 a2 (pe_lc (own := own) G.calm G.nd (sI it S X G _ _ h4) hb (fun s H C cl fp => sG tg _ _ (G.blk _ s H cl C fp) _ (weak_tup h4 h5) _ h5) (fun s H C cl fp => sC c _ _ (G.blk _ s H cl C fp) _ h6)
            (fun s H C cl fp => sE elt _ _ (G.blk _ s H cl C fp) _ h7) (fold_pl h3)) (sw_lcF ?_) a3) (lc_read hi)
          rw [G.sc]
          refine Bool.eq_false_iff.mpr fun z => hs ?_
          unfold lcSw
          simp only [Bool.and_eq_true, decide_eq_true_eq] at z ⊢
          refine ⟨⟨?_, z.1.2⟩, z.2⟩
          rw [z.1.1]
          rfl
      · simp only [Bool.and_eq_true] at h
        obtain ⟨h1, h2, h3⟩ := h
        obtain ⟨a1, a2, a3⟩ := G.loc h2
        rw [evS]; exact s_asgL (ps_set G.nd a1 a2 (sL l S X G _ h3) (swap_pl h1) a3) fun _ _ _ h => h
    · cases h
  | .asgD i d, S, X, G, hx, st, h => by
    rw [chkS] at h
    dsimp only at h
    split at h
    · simp only [Bool.and_eq_true] at h
      obtain ⟨h1, h2, h3⟩ := h
      obtain ⟨a1, a2, a3⟩ := G.loc h2
      rw [evS]; exact s_asgD (ps_set G.nd a1 a2 (sDd d S X G _ h3) (swap_pl h1) a3) fun _ _ _ h => h
    · cases h
  | .asgT tg e, S, X, G, hx, st, h => by
    rw [chkS] at h
    dsimp only at h
    split at h
    · simp only [Bool.and_eq_true] at h
      obtain ⟨h1, h2, h3, h4, h5⟩ := h
      rw [evS]; exact s_asgT (sE e S X G _ h5) (sG tg S X G false (fun z => by cases z) _ h4) (swap_pl h1) (sw_none (by rw [G.sc]; exact h3)) (one_pl h2)
    · cases h
  | .par is ws, S, X, G, hx, st, h => by
    rw [chkS] at h
    dsimp only at h
    split at h
    · split at h
      · rename_i i j
        simp only [Bool.and_eq_true, decide_eq_true_eq, Bool.not_eq_true'] at h
        obtain ⟨h1, h2, h3, h4, h5, h6, h7, h8, h9, h10⟩ := h
        obtain ⟨a1, a2⟩ := G.lcl h3
        obtain ⟨b1, b2⟩ := G.lcl h4
        rw [evS]
        exact s_par (ta := fun _ t => tPar i j t) (ps_par G.calm G.nd a1 b1 h1 a2 b2 (sWs ws S X G _ h10) (sw2 (by rw [G.sc]; exact funB_ok h2) a2 b2 h5 h6 h7 h8 h9)) (par2 (chkWs_len ws S _ h10))
      · cases h
    · split at h
      · rename_i i j k
        simp only [Bool.and_eq_true, decide_eq_true_eq, Bool.not_eq_true'] at h
        obtain ⟨h1, h2, h3, h4, h5, h6, h7, h8, h9, h10, h11, h12, h13, h14, h15, h16⟩ := h
        obtain ⟨a1, a2⟩ := G.lcl h5
        obtain ⟨b1, b2⟩ := G.lcl h6
        obtain ⟨c1, c2⟩ := G.lcl h7
        rw [evS]
        exact s_par (ta := fun _ t => tPar3 i j k t) (ps_par3 G.calm G.nd a1 b1 c1 h1 h2 h3 a2 b2 c2 (sWs ws S X G _ h16) (sw3 (by rw [G.sc]; exact funB_ok h4) a2 b2 c2 h8 h9 h10 h11 h12 h13 h14 h15)) (par3 (chkWs_len ws S _ h16))
      · cases h
    · cases h
  | .app i e, S, X, G, hx, st, h => by
    rw [chkS] at h
    dsimp only at h
    split at h
    · simp only [Bool.and_eq_true, decide_eq_true_eq] at h
      obtain ⟨h1, h2, h3, h4, h5⟩ := h
      subst h1
      rw [evS]
      exact s_app (ps_expr (pe_bm PySem.F.plainAttrs_list PySem.F.slot_list_append PySem.F.type_list_append mt_append (G.vis h2) (pa_cons (sE e S X G _ h5) pa_nil (starEach_pl h3)) rfl (few_pl h3) h4 (starEach_pl h3) rfl)) fun _ _ _ h => h
    · cases h
  | .ext i e, S, X, G, hx, st, h => by
    rw [chkS] at h
    dsimp only at h
    split at h
    · simp only [Bool.and_eq_true, decide_eq_true_eq] at h
      obtain ⟨h1, h2, h3, h4, h5⟩ := h
      subst h1
      rw [evS]
      exact s_ext (ps_expr (pe_bm PySem.F.plainAttrs_list PySem.F.slot_list_extend PySem.F.type_list_extend mt_extend (G.vis h2) (pa_cons (sE e S X G _ h5) pa_nil (starEach_pl h3)) rfl (few_pl h3) h4 (starEach_pl h3) rfl)) fun _ _ _ h => h
    · cases h
  | .setI i k e, S, X, G, hx, st, h => by
    rw [chkS] at h
    dsimp only at h
    split at h
    · simp only [Bool.and_eq_true] at h
      obtain ⟨h1, h2, h3, h4, h5⟩ := h
      rw [evS]
      exact s_setI (ps_asg (sE e S X G _ h5) (pg_sub (G.vis h3) (sO k S X G _ h4) set_list (sub_pl h2)) (swapS_pl h1) (sw_none (noS _)) (one_pl rfl))
    · cases h
  | .augL i k b, S, X, G, hx, st, h => by
    rw [chkS] at h
    dsimp only at h
    split at h
    · simp only [Bool.and_eq_true, decide_eq_true_eq] at h
      obtain ⟨h1, h2, h3, h4, h5⟩ := h
      subst h1
      rw [evS]
      exact s_augL (ps_augS (G.vis h3) (sO k S X G _ h4) get_list (sO b S X G _ h5) ip_add set_list (aug_pl h2))
    · cases h
  | .add i b, S, X, G, hx, st, h => by
    rw [chkS] at h
    dsimp only at h
    split at h
    · simp only [Bool.and_eq_true, decide_eq_true_eq] at h
      obtain ⟨h1, h2, h3⟩ := h
      subst h1
      obtain ⟨a1, a2, a3⟩ := G.loc h2
      rw [evS]
      exact s_augI (ps_aug G.nd a1 a2 (sO b S X G _ h3) ip_add a3)
    · cases h
  | .sub i b, S, X, G, hx, st, h => by
    rw [chkS] at h
    dsimp only at h
    split at h
    · simp only [Bool.and_eq_true, decide_eq_true_eq] at h
      obtain ⟨h1, h2, h3⟩ := h
      subst h1
      obtain ⟨a1, a2, a3⟩ := G.loc h2
      rw [evS]
      exact s_augI (ps_aug G.nd a1 a2 (sO b S X G _ h3) ip_sub a3)
    · cases h
  | .putD i k e, S, X, G, hx, st, h => by
    rw [chkS] at h
    dsimp only at h
    split at h
    · simp only [Bool.and_eq_true] at h
      obtain ⟨h1, h2, h3, h4⟩ := h
      rw [evS]
      exact s_putD (ps_dput (by have := G.units; omega) (G.vis h2) (sO k S X G _ h3) (sE e S X G _ h4) (swap_pl h1))
    · cases h
  | .augD i k b, S, X, G, hx, st, h => by
    rw [chkS] at h
    dsimp only at h
    split at h
    · simp only [Bool.and_eq_true, decide_eq_true_eq] at h
      obtain ⟨h1, h2, h3, h4, h5⟩ := h
      subst h1
      rw [evS]
      exact s_augD (ps_daug (by have := G.units; omega) (G.vis h3) (sO k S X G _ h4) (sO b S X G _ h5) in_add (aug_pl h2))
    · cases h
  | .brk, S, X, G, hx, st, h => by
    rw [chkS] at h
    dsimp only at h
    split at h
    · rw [evS]; exact s_brk
    · cases h
  | .cont, S, X, G, hx, st, h => by
    rw [chkS] at h
    dsimp only at h
    split at h
    · rw [evS]; exact s_cont
    · cases h
  | .pass, S, X, G, hx, st, h => by
    rw [chkS] at h
    dsimp only at h
    split at h
    · rw [evS]; exact s_pass
    · cases h
  | .drop e, S, X, G, hx, st, h => by
    rw [chkS] at h
    dsimp only at h
    split at h
    · simp only [Bool.and_eq_true] at h
      rw [evS]; exact s_drop (sE e S X G _ h.2) (swap_pl h.1)
    · cases h
theorem sB {Y : Sys} : ∀ (p : B) (S : Sc) (X : Cx), Good Y S X → (X.xe = fun _ _ => False) → ∀ sts, chkB p S sts = true → PSs X sts (tS X.K (evB Y p))
  | .nil, S, X, G, hx, sts, h => by
    rw [chkB] at h
    dsimp only at h
    split at h
    · rw [evB]; exact s_nil
    · cases h
  | .cons s r, S, X, G, hx, sts, h => by
    rw [chkB] at h
    dsimp only at h
    split at h
    · simp only [Bool.and_eq_true] at h
      rw [evB]; exact s_cons (sS s S X G hx _ h.1) (sB r S X G hx _ h.2)
    · cases h
end
end Pf

set_option maxHeartbeats 4000000
namespace Pf
open PySem L2

/-! ### the defs' table -/
structure Fd where
  np : Nat
  ns : Nat
  body : B
def fdF (Y : Sys) : Option Fd → Nat × Fnc
  | some d => (d.np, fBody d.np d.ns (evB Y d.body))
  | none => (0, fun _ => none)
def tabS (T : List Fd) (C : Nat → D) : Nat → Sys
  | 0 => ⟨fun j => ((fdF ⟨fun _ => (0, fun _ => none), C⟩ T[j]?).1, fun _ => none), C⟩
  | n + 1 => ⟨fun j => fdF (tabS T C n) T[j]?, C⟩
theorem fdF_np {Y Y' : Sys} : ∀ {o : Option Fd}, (fdF Y o).1 = (fdF Y' o).1
  | some _ => rfl
  | none => rfl
theorem tabS_np {T : List Fd} {C : Nat → D} {j : Nat} {d : Fd} (h : T[j]? = some d) : ∀ n, ((tabS T C n).f j).1 = d.np
  | 0 => by show (fdF _ T[j]?).1 = _; rw [h]; rfl
  | n + 1 => by show (fdF _ T[j]?).1 = _; rw [h]; rfl
theorem tabS_c {T : List Fd} {C : Nat → D} : ∀ n, (tabS T C n).c = C
  | 0 => rfl
  | n + 1 => rfl
/-- the text of the j-th def, and what the top has written of it -/
structure FdOk (K : PySem.W.Frag) (mg : Str → Option Value) (gl : List (Str × GK)) (d : Fd) (j : Nat) : Prop where
  ex : ∃ (x : Str) (st : Stmt) (ps N : List Str) (f : Addr) (fd : FuncData), d.np = ps.length ∧ d.ns = N.length ∧ mg x = some (.ref f) ∧ Fun K x x st f fd ∧ FnScope N ps (defScope st) ∧ Binds K fd ps [] ∧
    chkB d.body ⟨N, defScope st, none, gl⟩ (defBody st) = true ∧ ∀ y, gl.lookup y = some (.fn j) → y = x
def isFn (j : Nat) : GK → Bool
  | .fn i => decide (i = j)
  | _ => false
def nmB (gl : List (Str × GK)) (j : Nat) (x : Str) : Bool := gl.all fun p => !(isFn j p.2) || decide (p.1 = x)
theorem lookup_mem {α : Type} {x : Str} {b : α} : ∀ {l : List (Str × α)}, l.lookup x = some b → (x, b) ∈ l
  | [], h => by cases h
  | p :: l, h => by
    rw [List.lookup_cons] at h
    split at h
    · rename_i z
      cases h
      rw [eq_of_beq z]
      exact List.mem_cons_self
    · exact List.mem_cons_of_mem _ (lookup_mem h)
theorem nmB_ok {gl : List (Str × GK)} {j : Nat} {x : Str} (h : nmB gl j x = true) : ∀ y, gl.lookup y = some (.fn j) → y = x := fun y hy => by
  have z := List.all_eq_true.mp h _ (lookup_mem hy)
  simpa [isFn] using z
theorem fd_mk {K : PySem.W.Frag} {mg : Str → Option Value} {gl : List (Str × GK)} {d : Fd} {j : Nat} {x : Str} {st : Stmt} {ps N : List Str} {f : Addr} {fd : FuncData} (m : mg x = some (.ref f)) (F : Fun K x x st f fd) (S : FnScope N ps (defScope st)) (b : Binds K fd ps [])
    (hc : chkB d.body ⟨N, defScope st, none, gl⟩ (defBody st) = true) (hn : nmB gl j x = true) (h1 : d.np = ps.length) (h2 : d.ns = N.length) : FdOk K mg gl d j :=
  ⟨x, st, ps, N, f, fd, h1, h2, m, F, S, b, hc, nmB_ok hn⟩
inductive TabOk (K : PySem.W.Frag) (mg : Str → Option Value) (gl : List (Str × GK)) : Nat → List Fd → Prop
  | nil {j : Nat} : TabOk K mg gl j []
  | cons {j : Nat} {d : Fd} {T : List Fd} : FdOk K mg gl d j → TabOk K mg gl (j + 1) T → TabOk K mg gl j (d :: T)
theorem TabOk.get {K : PySem.W.Frag} {mg : Str → Option Value} {gl : List (Str × GK)} : ∀ {T : List Fd} {i j : Nat} {d : Fd}, TabOk K mg gl i T → T[j]? = some d → FdOk K mg gl d (i + j)
  | [], _, _, _, _, h => by simp at h
  | e :: T, i, 0, d, .cons a _, h => by cases h; exact a
  | e :: T, i, j + 1, d, .cons _ b, h => by
    have z := b.get (j := j) (d := d) h
    rw [show i + (j + 1) = i + 1 + j by omega]
    exact z
/-- what the look says of names -/
structure GlOk (K : PySem.W.Frag) (mg : Str → Option Value) (gl : List (Str × GK)) (T : List Fd) (C : Nat → D) : Prop where
  blt : ∀ x, isBlt (gl.lookup x) = true → mg x = none
  cst : ∀ x k, gl.lookup x = some (.cst k) → ∃ u v, mg x = some u ∧ RelV v u ∧ ∀ G, DP K G v (C k)
  fns : ∀ x j, gl.lookup x = some (.fn j) → j < T.length
theorem none_ok {P : Program} {w : World} {K : PySem.W.Frag} {mg : Str → Option Value} {base : Heap} {CX : CXT} {k n : Nat} {f : Addr} {fd : FuncData} {ps : List Str} (h : n = ps.length) : FnOk P w K mg base CX k f fd ps (spD K (fun _ => none) n) :=
  ⟨fun vs H Q E z => z.1.trans h, fun A outer s H args us vs Q E hr hl ha hb hc => by
    obtain ⟨_, _, _, _, _, _, z, _⟩ := hc
    cases z⟩
/-- THE TABLE: every def keeps its promise at every level -/
theorem tab_ok {P : Program} {w : World} {K : PySem.W.Frag} {mg : Str → Option Value} {base : Heap} {gl : List (Str × GK)} {T : List Fd} {C : Nat → D} (hT : TabOk K mg gl 0 T) (hg : GlOk K mg gl T C) : ∀ (n j : Nat) (d : Fd), T[j]? = some d →
    ∃ (x : Str) (f : Addr) (fd : FuncData) (ps : List Str), mg x = some (.ref f) ∧ PySem.W.keepIn K (.ref f) = true ∧ Binds K fd ps [] ∧ FnOk P w K mg base CX0 n f fd ps (spD K ((tabS T C n).f j).2 ((tabS T C n).f j).1) ∧ ∀ y, gl.lookup y = some (.fn j) → y = x
  | 0, j, d, h => by
    have q := hT.get h
    rw [Nat.zero_add] at q
    obtain ⟨x, st, ps, N, f, fd, h1, h2, m, F, S, b, hc, hn⟩ := q.ex
    refine ⟨x, f, fd, ps, m, F.kp, b, ?_, hn⟩
    exact none_ok ((tabS_np h 0).trans h1)
  | n + 1, j, d, h => by
    have q := hT.get h
    rw [Nat.zero_add] at q
    obtain ⟨x, st, ps, N, f, fd, h1, h2, m, F, S, b, hc, hn⟩ := q.ex
    refine ⟨x, f, fd, ps, m, F.kp, b, ?_, hn⟩
    have e : (tabS T C (n + 1)).f j = (d.np, fBody d.np d.ns (evB (tabS T C n) d.body)) := by show fdF _ T[j]? = _; rw [h]; rfl
    rw [e]
    show FnOk P w K mg base CX0 (n + 1) f fd ps (spD K (fBody d.np d.ns (evB (tabS T C n) d.body)) d.np)
    rw [h1, h2]
    refine fn_body F S fun X e1 e2 e3 e4 e5 e6 e7 e8 e9 hr hx => ?_
    refine sB d.body ⟨N, defScope st, none, gl⟩ X ?_ hx _ hc
    exact {
      hN := e6
      nd := by rw [e6]; exact S.nd
      sc := e7
      fn := e9
      calm := e8
      room := hr.mono (Nat.zero_le _)
      blt := fun x hx => by rw [e4]; exact hg.blt x hx
      cst := fun x k hk => by
        obtain ⟨u, v, a1, a2, a3⟩ := hg.cst x k hk
        refine ⟨u, v, by rw [e4]; exact a1, a2, fun G => ?_⟩
        rw [e3, tabS_c]
        exact a3 G
      fns := fun y i hi => by
        have hlt := hg.fns y i hi
        obtain ⟨x', f', fd', ps', a1, a2, a3, a4, a5⟩ := tab_ok hT hg n i T[i] (List.getElem?_eq_getElem hlt)
        have ey := a5 y hi
        subst ey
        refine ⟨f', fd', ps', n, by rw [e4]; exact a1, by rw [e3]; exact a2, by rw [e3]; exact a3, ?_, hr⟩
        rw [e1, e2, e3, e4, e5]
        exact a4 }
/-- the law's promise -/
theorem law_sp {K : PySem.W.Frag} {c : Fnc} {H : Hp} {a : Addr} {ns : List Int} {o : List SV} (hs : SqL K H a (ns.map V.int)) (h : c [.rlst (ns.map PyData.int)] = some (.bool true, o)) : spD K c 1 [.ref a] H (fun v _ => v = .bl true) fun _ _ _ => False := by
  refine ⟨rfl, H, [.rlst (ns.map PyData.int)], _, o, ⟨fun b u hb => .inl hb, rfl, fun i sv e => ?_, fun i j sv sv' v e1 e2 w1 _ _ _ => ?_⟩, h, fun v G' H' _ r => ?_⟩
  · cases i with
    | zero =>
      cases e
      refine ⟨.ref a, rfl, a, ns.map V.int, rfl, hs, ?_⟩
      clear hs h
      induction ns with
      | nil => exact .nil
      | cons n ns ih => exact .cons (.int n) ih
    | succ i => simp at e
  · cases i with
    | zero =>
      cases e1
      cases w1
    | succ i => simp at e1
  · cases r; rfl
end Pf

set_option maxHeartbeats 4000000
namespace Pf
open PySem L2

theorem law_ok {P : Program} {w : World} {K : PySem.W.Frag} {mg : Str → Option Value} {base : Heap} {gl : List (Str × GK)} {T : List Fd} {C : Nat → D} (hT : TabOk K mg gl 0 T) (hg : GlOk K mg gl T C) {x : Str} {st : Stmt} {ps N : List Str} {f : Addr} {fd : FuncData} {d : Fd} {j n : Nat} (F : Fun K x x st f fd) (S : FnScope N ps (defScope st))
    (hd : T[j]? = some d) (hc : chkB d.body ⟨N, defScope st, none, gl⟩ (defBody st) = true) (h1 : d.np = ps.length) (h2 : d.ns = N.length) : FnOk P w K mg base CX0 (n + 1) f fd ps (spD K ((tabS T C (n + 1)).f j).2 ((tabS T C (n + 1)).f j).1) := by
  have e : (tabS T C (n + 1)).f j = (d.np, fBody d.np d.ns (evB (tabS T C n) d.body)) := by show fdF _ T[j]? = _; rw [hd]; rfl
  rw [e]
  show FnOk P w K mg base CX0 (n + 1) f fd ps (spD K (fBody d.np d.ns (evB (tabS T C n) d.body)) d.np)
  rw [h1, h2]
  refine fn_body F S fun X e1 e2 e3 e4 e5 e6 e7 e8 e9 hr hx => ?_
  refine sB d.body ⟨N, defScope st, none, gl⟩ X ?_ hx _ hc
  exact {
    hN := e6
    nd := by rw [e6]; exact S.nd
    sc := e7
    fn := e9
    calm := e8
    room := hr.mono (Nat.zero_le _)
    blt := fun x hx => by rw [e4]; exact hg.blt x hx
    cst := fun x k hk => by
      obtain ⟨u, v, a1, a2, a3⟩ := hg.cst x k hk
      refine ⟨u, v, by rw [e4]; exact a1, a2, fun G => ?_⟩
      rw [e3, tabS_c]
      exact a3 G
    fns := fun y i hi => by
      have hlt := hg.fns y i hi
      obtain ⟨x', f', fd', ps', a1, a2, a3, a4, a5⟩ := tab_ok hT hg n i T[i] (List.getElem?_eq_getElem hlt)
      have ey := a5 y hi
      subst ey
      refine ⟨f', fd', ps', n, by rw [e4]; exact a1, by rw [e3]; exact a2, by rw [e3]; exact a3, ?_, hr⟩
      rw [e1, e2, e3, e4, e5]
      exact a4 }
def bltOf (bl : List Str) (p : Str × GK) : Bool := !(isBlt (some p.2)) || decide (p.1 ∈ bl)
theorem blt_of {gl : List (Str × GK)} {bl : List Str} {x : Str} (h : gl.all (bltOf bl) = true) (hx : isBlt (gl.lookup x) = true) : x ∈ bl := by
  cases e : gl.lookup x with
  | none => rw [e] at hx; cases hx
  | some k =>
    rw [e] at hx
    have z := List.all_eq_true.mp h _ (lookup_mem e)
    simp only [bltOf, hx, Bool.not_true, Bool.false_or, decide_eq_true_eq] at z
    exact z
def cstOf (l : List (Str × Nat)) : Str × GK → Bool
  | (x, .cst k) => decide ((x, k) ∈ l)
  | _ => true
theorem cst_of {gl : List (Str × GK)} {l : List (Str × Nat)} {x : Str} {k : Nat} (h : gl.all (cstOf l) = true) (hx : gl.lookup x = some (.cst k)) : (x, k) ∈ l := by
  have z := List.all_eq_true.mp h _ (lookup_mem hx)
  simpa only [cstOf, decide_eq_true_eq] using z
def fnsOf (n : Nat) : Str × GK → Bool
  | (_, .fn k) => decide (k < n)
  | _ => true
theorem fns_of {gl : List (Str × GK)} {n j : Nat} {x : Str} (h : gl.all (fnsOf n) = true) (hx : gl.lookup x = some (.fn j)) : j < n := by
  have z := List.all_eq_true.mp h _ (lookup_mem hx)
  simpa only [fnsOf, decide_eq_true_eq] using z
theorem tupC {K : PySem.W.Frag} {G : Hp} {q : Addr} {its : Array Value} {n : Nat} {qs : Array (Option Value)} {ns : List Int} (v : K.lookup q = some ⟨.type "tuple", none, .seq its n, qs⟩) (hz : its.size ≤ sizeLine) (hv : Vals (ns.map V.int) its.toList) : DP K G (.ref q) (.tuple (ns.map PyData.int)) := by
  refine .tup (xs := ns.map V.int) (.inr ⟨its, n, qs, v, hz, hv⟩) ?_
  clear hv
  induction ns with
  | nil => exact .nil
  | cons a r ih => exact .cons (.int a) ih
end Pf

set_option maxHeartbeats 4000000
namespace Pf
open PySem L2

/-! ### numbers -/
def cp (q : Rat) : D := .tuple [.int q.num, .int (q.den : Int)]
theorem frac_num {a b : Int} (hb : b ≠ 0) : a.fdiv ((Int.gcd a b : Int) * (if b > 0 then 1 else -1)) = (Rat.divInt a b).num ∧ b.fdiv ((Int.gcd a b : Int) * (if b > 0 then 1 else -1)) = ((Rat.divInt a b).den : Int) := by
  have hg : (0 : Int) < Int.gcd a b := by
    have := Int.gcd_pos_of_ne_zero_right (b := b) a hb
    omega
  obtain ⟨a', ha⟩ := Int.gcd_dvd_left a b
  obtain ⟨b', hb'⟩ := Int.gcd_dvd_right a b
  rw [Rat.num_divInt, Rat.den_divInt, if_neg hb, Int.gcd_comm b a]
  generalize hG : (Int.gcd a b : Nat) = g at *
  have hg0 : (g : Int) ≠ 0 := by omega
  by_cases hp : b > 0
  · rw [if_pos hp, Int.mul_one, Int.sign_eq_one_of_pos hp, Int.one_mul]
    refine ⟨?_, ?_⟩
    · exact Int.fdiv_eq_ediv_of_nonneg _ (by omega)
    · rw [Int.fdiv_eq_ediv_of_nonneg _ (by omega), Int.natCast_ediv, Int.natAbs_of_nonneg (by omega)]
  · have hn : b < 0 := by omega
    rw [if_neg hp, Int.sign_eq_neg_one_of_neg hn]
    have e1 : a.fdiv (↑g * -1) = -a' := by
      rw [ha, show (g : Int) * a' = (-a') * (↑g * -1) by grind]
      exact Int.mul_fdiv_cancel _ (by omega)
    have e2 : b.fdiv (↑g * -1) = -b' := by
      rw [hb', show (g : Int) * b' = (-b') * (↑g * -1) by grind]
      exact Int.mul_fdiv_cancel _ (by omega)
    refine ⟨?_, ?_⟩
    · rw [e1, ha, show (-1 : Int) * (↑g * a') = ↑g * (-a') by grind, Int.mul_ediv_cancel_left _ hg0]
    · rw [e2]
      have hb2 : 0 < -b' := by
        rcases Int.lt_or_le b' 0 with h | h
        · omega
        · have := Int.mul_nonneg (Int.le_of_lt hg) h
          rw [← hb'] at this
          omega
      have e3 : (b.natAbs : Int) = g * (-b') := by
        rw [show (b.natAbs : Int) = -b by omega, hb']
        grind
      rw [Int.natCast_ediv, e3, Int.mul_ediv_cancel_left _ hg0]
/-- no number of it is greater than 2 ^ k -/
def Bd (k : Nat) (q : Rat) : Prop := q.num.natAbs ≤ 2 ^ k ∧ q.den ≤ 2 ^ k
theorem Bd.mono {j k : Nat} {q : Rat} (h : Bd j q) (hk : j ≤ k) : Bd k q :=
  ⟨Nat.le_trans h.1 (Nat.pow_le_pow_right (by decide) hk), Nat.le_trans h.2 (Nat.pow_le_pow_right (by decide) hk)⟩
theorem bd_div {a b : Int} {k : Nat} (hb : b ≠ 0) (h1 : a.natAbs ≤ 2 ^ k) (h2 : b.natAbs ≤ 2 ^ k) : Bd k (Rat.divInt a b) := by
  have hg : 0 < Int.gcd a b := Int.gcd_pos_of_ne_zero_right (b := b) a hb
  have hs : (b.sign * a).natAbs = a.natAbs := by
    rw [Int.natAbs_mul, Int.natAbs_sign_of_ne_zero hb, Nat.one_mul]
  constructor
  · rw [Rat.num_divInt, Int.gcd_comm b a, Int.natAbs_ediv_of_dvd (Int.dvd_trans (Int.gcd_dvd_left a b) (Int.dvd_mul_left _ _)), hs]
    exact Nat.le_trans (Nat.div_le_self _ _) h1
  · rw [Rat.den_divInt, if_neg hb]
    exact Nat.le_trans (Nat.div_le_self _ _) h2
theorem Bd.mul {j k : Nat} {p q : Rat} (h1 : Bd j p) (h2 : Bd k q) : Bd (j + k) (p * q) := by
  rw [Rat.mul_def', ← Rat.divInt_ofNat]
  refine bd_div (by have := p.den_pos; have := q.den_pos; have := Nat.mul_pos p.den_pos q.den_pos; omega) ?_ ?_
  · rw [Int.natAbs_mul, Nat.pow_add]; exact Nat.mul_le_mul h1.1 h2.1
  · rw [Int.natAbs_natCast, Nat.pow_add]; exact Nat.mul_le_mul h1.2 h2.2
theorem Bd.add {j k : Nat} {p q : Rat} (h1 : Bd j p) (h2 : Bd k q) : Bd (j + k + 1) (p + q) := by
  rw [Rat.add_def', ← Rat.divInt_ofNat]
  refine bd_div (by have := Nat.mul_pos p.den_pos q.den_pos; omega) ?_ ?_
  · refine Nat.le_trans (Int.natAbs_add_le _ _) ?_
    rw [Int.natAbs_mul, Int.natAbs_mul, Int.natAbs_natCast, Int.natAbs_natCast, Nat.pow_succ, Nat.pow_add]
    have e1 := Nat.mul_le_mul h1.1 h2.2
    have e2 := Nat.mul_le_mul h2.1 h1.2
    rw [Nat.mul_comm (2 ^ k)] at e2
    omega
  · rw [Int.natAbs_natCast, Nat.pow_succ, Nat.pow_add]
    have e1 := Nat.mul_le_mul h1.2 h2.2
    omega
theorem Bd.neg {k : Nat} {p : Rat} (h : Bd k p) : Bd k (-p) := ⟨by rw [Rat.neg_num, Int.natAbs_neg]; exact h.1, by rw [Rat.neg_den]; exact h.2⟩
theorem Bd.sub {j k : Nat} {p q : Rat} (h1 : Bd j p) (h2 : Bd k q) : Bd (j + k + 1) (p - q) := by rw [Rat.sub_eq_add_neg]; exact h1.add h2.neg
theorem Bd.div {j k : Nat} {p q : Rat} (h1 : Bd j p) (h2 : Bd k q) (hq : q ≠ 0) : Bd (j + k) (p / q) := by
  have hn : q.num ≠ 0 := fun e => hq (Rat.num_eq_zero.mp e)
  have e : p / q = Rat.divInt (p.num * q.den) (p.den * q.num) := by
    rw [Rat.div_def, Rat.inv_def]
    conv => lhs; rw [← Rat.num_divInt_den p]
    rw [Rat.divInt_mul_divInt]
  rw [e]
  refine bd_div (by have := p.den_pos; exact Int.mul_ne_zero (by omega) hn) ?_ ?_
  · rw [Int.natAbs_mul, Int.natAbs_natCast, Nat.pow_add]; exact Nat.mul_le_mul h1.1 h2.2
  · rw [Int.natAbs_mul, Int.natAbs_natCast, Nat.pow_add]; exact Nat.mul_le_mul h1.2 h2.1
theorem add_dI (p q : Rat) : p + q = Rat.divInt (p.num * q.den + q.num * p.den) (p.den * q.den) := by
  rw [Rat.add_def', ← Rat.divInt_ofNat, Int.natCast_mul]
theorem mul_dI (p q : Rat) : p * q = Rat.divInt (p.num * q.num) (p.den * q.den) := by
  rw [Rat.mul_def', ← Rat.divInt_ofNat, Int.natCast_mul]
theorem div_dI (p q : Rat) : p / q = Rat.divInt (p.num * q.den) (p.den * q.num) := by
  rw [Rat.div_def, Rat.inv_def]
  conv => lhs; rw [← Rat.num_divInt_den p]
  rw [Rat.divInt_mul_divInt]
theorem cp_inj {p q : Rat} (h : cp p = cp q) : p = q := by
  have h1 : p.num = q.num := by injection h with h; injection h with h _; injection h
  have h2 : (p.den : Int) = q.den := by injection h with h; injection h with _ h; injection h with h _; injection h
  exact Rat.ext h1 (by omega)
end Pf

set_option maxHeartbeats 4000000
namespace Pf
open PySem L2

/-! ### evaluation -/
theorem getElem_s {α : Type} (a : α) (l : List α) (i : Nat) : (a :: l)[i + 1]? = l[i]? := rfl
theorem sm_le {i : Int} {k : Nat} (h : i.natAbs ≤ 2 ^ k) (hk : k < 4000) : Sm i := Nat.lt_of_le_of_lt h (by unfold bigN; exact Nat.pow_lt_pow_right (by decide) hk)
theorem sm_small {i : Int} (h : i.natAbs ≤ 2 ^ 64) : Sm i := sm_le h (by decide)
theorem Bd.sn {q : Rat} {k : Nat} (h : Bd k q) (hk : k < 4000) : Sm q.num := sm_le h.1 hk
theorem Bd.sd {q : Rat} {k : Nat} (h : Bd k q) (hk : k < 4000) : Sm (q.den : Int) := sm_le (by rw [Int.natAbs_natCast]; exact h.2) hk
theorem at0 {α : Type} (a : α) (l : List α) : atI (a :: l) 0 = some a := atI_nat (j := 0) rfl
theorem at1 {α : Type} (a b : α) (l : List α) : atI (a :: b :: l) 1 = some b := atI_nat (j := 1) rfl
theorem eqD_int (i j : Int) : eqD (.int i) (.int j) = some (decide (i = j)) := by
  show (if _ then _ else _) = _
  rw [if_pos ⟨rfl, rfl⟩]
  show some (i == j) = _
  congr 1
theorem eqD_cp (p q : Rat) : eqD (cp p) (cp q) = some (decide (p = q)) := by
  show (if _ then _ else _) = _
  rw [if_pos ⟨rfl, rfl⟩]
  congr 1
  show PyData.eqv (.tuple [.int p.num, .int p.den]) (.tuple [.int q.num, .int q.den]) = _
  simp only [PyData.eqv, PyData.eqvAll, Bool.and_true]
  by_cases h : p = q
  · subst h; simp
  · rw [decide_eq_false h]
    refine Bool.eq_false_iff.mpr fun z => h ?_
    simp only [Bool.and_eq_true, beq_iff_eq] at z
    exact Rat.ext z.1 (by omega)
theorem outs_id : ∀ {svs : List SV} {en : En}, (svs.all fun s => !(ownB s)) = true → svs.length ≤ en.length → outs svs en = some svs
  | [], _, _, _ => rfl
  | s :: r, [], _, h => by simp at h
  | s :: r, o :: e, h, hl => by
    simp only [List.all_cons, Bool.and_eq_true, Bool.not_eq_true'] at h
    have ih := outs_id (svs := r) (en := e) h.2 (by simpa using hl)
    unfold outs
    cases s with
    | odic p kvs => cases p <;> cases h.1
    | olst ds => cases h.1
    | dat d => simp [ih, ownB]
    | fdic d => simp [ih, ownB]
    | kdic d => simp [ih, ownB]
    | rlst d => simp [ih, ownB]
/-- gcd -/
theorem gcd_loop {cond : M Bool} {body : MS} (f : Int → Int → En) (hc : ∀ a b, cond (f a b) = some (decide (b ≠ 0), f a b)) (hb : ∀ a b : Int, b ≠ 0 → body (f a b) = some (.next, f b (a.fmod b))) : ∀ (n a b : Nat), b < n → loopW cond body n (f a b) = some (.next, f (Nat.gcd a b) 0)
  | 0, _, _, h => by omega
  | n + 1, a, b, h => by
    unfold loopW
    rw [hc]
    by_cases z : (b : Int) = 0
    · have e : b = 0 := by omega
      subst e
      simp
    · have hb0 : b ≠ 0 := by omega
      simp only [Option.bind_some, z, ne_eq, not_false_eq_true, decide_true, if_true, hb _ _ z, aftL]
      rw [show ((a : Int).fmod b) = ((a % b : Nat) : Int) from (Int.fmod_eq_emod_of_nonneg _ (by omega)).trans (Int.natCast_emod a b).symm]
      rw [gcd_loop f hc hb n b (a % b) (by have := Nat.mod_lt a (Nat.pos_of_ne_zero hb0); omega)]
      rw [Nat.gcd_comm b, ← Nat.gcd_rec b a, Nat.gcd_comm]
theorem B_next {Y : Sys} {s : S} {r : B} {en en1 : En} {x : Option (Fl × En)} (h : evS Y s en = some (.next, en1)) (h2 : evB Y r en1 = x) : evB Y (.cons s r) en = x := by
  rw [evB]; unfold fSeq2; rw [h]; exact h2
theorem B_ret {Y : Sys} {s : S} {r : B} {en en1 : En} {d : D} (h : evS Y s en = some (.ret d, en1)) : evB Y (.cons s r) en = some (.ret d, en1) := by
  rw [evB]; unfold fSeq2; rw [h]; rfl
theorem fb_ret {np ns : Nat} {body : MS} {args : List SV} {en' : En} {d : D} (hn : args.length = np) (h : body (args.map some ++ List.replicate (ns - np) none) = some (.ret d, en')) (ho : outs args en' = some args) : fBody np ns body args = some (d, args) := by
  unfold fBody
  rw [if_pos hn, h]
  simp [endV, ho]
theorem fb_ret' {np ns : Nat} {body : MS} {args args' : List SV} {en' : En} {d : D} (hn : args.length = np) (h : body (args.map some ++ List.replicate (ns - np) none) = some (.ret d, en')) (ho : outs args en' = some args') : fBody np ns body args = some (d, args') := by
  unfold fBody
  rw [if_pos hn, h]
  simp [endV, ho]
/-- a slot of which one knows that it holds data, if it holds anything -/
abbrev dv (o : Option D) : Option SV := o.map SV.dat
theorem setS_s {i : Nat} {sv : SV} {a : Option SV} {l : En} : setS (i + 1) sv (a :: l) = (setS i sv l).map (a :: ·) := by
  unfold setS
  rw [getElem_s]
  split <;> simp_all
theorem setS_dv {sv : SV} {o : Option D} {l : En} : setS 0 sv (o.map SV.dat :: l) = some (some sv :: l) := by cases o <;> rfl
theorem setS_dat {sv : SV} {d : D} {l : En} : setS 0 sv (some (.dat d) :: l) = some (some sv :: l) := rfl
theorem setS_none {sv : SV} {l : En} : setS 0 sv (none :: l) = some (some sv :: l) := rfl
theorem setS_olst {sv : SV} {d : List D} {l : En} : setS 0 sv (some (.olst d) :: l) = some (some sv :: l) := rfl
theorem setS_rlst {sv : SV} {d : List D} {l : En} : setS 0 sv (some (.rlst d) :: l) = some (some sv :: l) := rfl
theorem setS_fdic {sv : SV} {d : List (Key × D)} {l : En} : setS 0 sv (some (.fdic d) :: l) = some (some sv :: l) := rfl
theorem setS_kdic {sv : SV} {d : List (Key × D)} {l : En} : setS 0 sv (some (.kdic d) :: l) = some (some sv :: l) := rfl
theorem setS_odic {sv : SV} {d : List (Key × D)} {l : En} : setS 0 sv (some (.odic false d) :: l) = some (some sv :: l) := rfl
theorem setS_ol {sv : SV} {o : Option (List D)} {l : En} : setS 0 sv (o.map SV.olst :: l) = some (some sv :: l) := by cases o <;> rfl
theorem gN_dv {i : Nat} {d : D} {en : En} {o : Option D} (h : en[i]? = some (o.map SV.dat)) : gN i d en = some (en.set i (some (.dat d))) := by
  show setS i (.dat d) en = _
  unfold setS
  rw [h]
  cases o <;> rfl
theorem loop_inv {bd : D → En → Option En} {body : MS} {P : Nat → En → Prop} : ∀ (ds : List D) (i : Nat) (en : En), P i en → (∀ j d en, ds[j]? = some d → P (i + j) en → ∃ en1 en2, bd d en = some en1 ∧ body en1 = some (.next, en2) ∧ P (i + j + 1) en2) → ∃ en', loopF bd body ds en = some (.next, en') ∧ P (i + ds.length) en'
  | [], i, en, h, _ => ⟨en, rfl, h⟩
  | d :: ds, i, en, h, k => by
    obtain ⟨en1, en2, h1, h2, h3⟩ := k 0 d en rfl h
    obtain ⟨en', h4, h5⟩ := loop_inv (P := P) ds (i + 1) en2 h3 fun j d en e p => by
      rw [show i + 1 + j = i + (j + 1) by omega] at p ⊢
      exact k (j + 1) d en e p
    refine ⟨en', ?_, by rw [List.length_cons, show i + (ds.length + 1) = i + 1 + ds.length by omega]; exact h5⟩
    unfold loopF
    rw [h1, Option.bind_some, h2]
    exact h4
/-- a loop that may return -/
theorem loop_ret {bd : D → En → Option En} {body : MS} {P : Nat → En → Prop} {R : D → En → Prop} : ∀ (ds : List D) (i : Nat) (en : En), P i en → (∀ j d en, ds[j]? = some d → P (i + j) en → ∃ en1 fl en2, bd d en = some en1 ∧ body en1 = some (fl, en2) ∧ ((fl = .next ∧ P (i + j + 1) en2) ∨ ∃ v, fl = .ret v ∧ R v en2)) →
    ∃ fl en', loopF bd body ds en = some (fl, en') ∧ ((fl = .next ∧ P (i + ds.length) en') ∨ ∃ v, fl = .ret v ∧ R v en')
  | [], i, en, h, _ => ⟨.next, en, rfl, .inl ⟨rfl, h⟩⟩
  | d :: ds, i, en, h, k => by
    obtain ⟨en1, fl, en2, h1, h2, h3⟩ := k 0 d en rfl h
    rcases h3 with ⟨rfl, h3⟩ | ⟨v, rfl, h3⟩
    · obtain ⟨fl', en', h4, h5⟩ := loop_ret (P := P) (R := R) ds (i + 1) en2 h3 fun j d en e p => by
        rw [show i + 1 + j = i + (j + 1) by omega] at p ⊢
        exact k (j + 1) d en e p
      refine ⟨fl', en', ?_, by rw [List.length_cons, show i + (ds.length + 1) = i + 1 + ds.length by omega]; exact h5⟩
      unfold loopF
      rw [h1, Option.bind_some, h2]
      exact h4
    · refine ⟨.ret v, en2, ?_, .inr ⟨v, rfl, h3⟩⟩
      unfold loopF
      rw [h1, Option.bind_some, h2]
      rfl
theorem comp_inv {vs : List Nat} {bd : D → En → Option En} {cond : M Bool} {elt : M SV} {P : Nat → List D → En → Prop} : ∀ (ds : List D) (i : Nat) (acc : List D) (en : En), P i acc en →
    (∀ j d acc en, ds[j]? = some d → P (i + j) acc en → ∃ en1 b en2, bd d en = some en1 ∧ cond en1 = some (b, en2) ∧ if b = true then ∃ x en3, elt en2 = some (.dat x, en3) ∧ P (i + j + 1) (acc ++ [x]) (wipeE en3 vs) else P (i + j + 1) acc (wipeE en2 vs)) →
    ∃ r en', cLoop vs bd cond elt ds en = some (r, en') ∧ P (i + ds.length) (acc ++ r) en'
  | [], i, acc, en, h, _ => ⟨[], en, rfl, by rw [List.append_nil]; exact h⟩
  | d :: ds, i, acc, en, h, k => by
    obtain ⟨en1, b, en2, h1, h2, h3⟩ := k 0 d acc en rfl h
    have kk : ∀ j d acc en, ds[j]? = some d → P (i + 1 + j) acc en → ∃ en1 b en2, bd d en = some en1 ∧ cond en1 = some (b, en2) ∧ if b = true then ∃ x en3, elt en2 = some (.dat x, en3) ∧ P (i + 1 + j + 1) (acc ++ [x]) (wipeE en3 vs) else P (i + 1 + j + 1) acc (wipeE en2 vs) := fun j d acc en e p => by
      rw [show i + 1 + j = i + (j + 1) by omega] at p ⊢
      exact k (j + 1) d acc en e p
    have hl : i + (d :: ds).length = i + 1 + ds.length := by rw [List.length_cons]; omega
    rw [hl]
    cases b with
    | true =>
      rw [if_pos rfl] at h3
      obtain ⟨x, en3, h4, h5⟩ := h3
      obtain ⟨r, en', h6, h7⟩ := comp_inv (P := P) ds (i + 1) (acc ++ [x]) _ h5 kk
      refine ⟨x :: r, en', ?_, by rw [List.append_assoc] at h7; exact h7⟩
      unfold cLoop
      simp [h1, h2, h4, h6, datS]
    | false =>
      rw [if_neg (by decide)] at h3
      obtain ⟨r, en', h6, h7⟩ := comp_inv (P := P) ds (i + 1) acc _ h3 kk
      refine ⟨r, en', ?_, h7⟩
      unfold cLoop
      simp [h1, h2, h6]
/-- a block that only asks -/
theorem comp_map {α : Type} {vs : List Nat} {bd : D → En → Option En} {cond : M Bool} {elt : M SV} {f g : α → D} {p : α → Bool} {en : En} : ∀ (xs : List α), (∀ x ∈ xs, ∃ en1 en2, bd (f x) en = some en1 ∧ cond en1 = some (p x, en2) ∧ if p x = true then ∃ en3, elt en2 = some (.dat (g x), en3) ∧ wipeE en3 vs = en else wipeE en2 vs = en) →
    cLoop vs bd cond elt (xs.map f) en = some ((xs.filter p).map g, en)
  | [], _ => rfl
  | x :: xs, h => by
    obtain ⟨en1, en2, h1, h2, h3⟩ := h x List.mem_cons_self
    have ih := comp_map (vs := vs) (bd := bd) (cond := cond) (elt := elt) (f := f) (g := g) (p := p) (en := en) xs fun y hy => h y (List.mem_cons_of_mem _ hy)
    rw [List.map_cons]
    unfold cLoop
    by_cases z : p x = true
    · rw [if_pos z] at h3
      obtain ⟨en3, h4, h5⟩ := h3
      simp [h1, h2, h4, h5, ih, datS, z, List.filter_cons]
    · rw [if_neg z] at h3
      simp [h1, h2, h3, ih, datS, z, List.filter_cons]
theorem cut_take {α : Type} (xs : List α) (k : Nat) : cutL xs none (some (k : Int)) = xs.take k := by
  unfold cutL
  rw [HT.sIx_none, HT.sIx_nat, List.drop_zero, Nat.sub_zero]
  by_cases h : k ≤ xs.length
  · rw [Nat.min_eq_left h]
  · rw [Nat.min_eq_right (by omega), List.take_of_length_le (Nat.le_refl _), List.take_of_length_le (by omega)]
theorem cut_drop {α : Type} (xs : List α) (k : Nat) : cutL xs (some (k : Int)) none = xs.drop k := by
  unfold cutL
  rw [HT.sIx_none, HT.sIx_nat]
  by_cases h : k ≤ xs.length
  · rw [Nat.min_eq_left h, List.take_of_length_le (by rw [List.length_drop]; omega)]
  · rw [Nat.min_eq_right (by omega), List.drop_length, List.drop_of_length_le (by omega)]
    simp
theorem rngD_at {lo : Int} {n j : Nat} {d : D} (h : (rngD lo n)[j]? = some d) : j < n ∧ d = .int (lo + j) := rngD_get h
theorem fm_bd {a b : Int} (h : 0 < b) : 0 ≤ a.fmod b ∧ a.fmod b < b := ⟨Int.fmod_nonneg_of_pos a h, Int.fmod_lt_of_pos a h⟩
/-- the state of the draws -/
def W (ns : List Int) (k : Int) : List (Key × D) := [(.inr ("draws" : Str), .list (ns.map PyData.int)), (.inr ("at" : Str), .int k)]
theorem W_draws (ns : List Int) (k : Int) : lookD (W ns k) (.inr ("draws" : Str)) = some (.list (ns.map PyData.int)) := rfl
theorem W_at (ns : List Int) (k : Int) : lookD (W ns k) (.inr ("at" : Str)) = some (.int k) := by
  have h : decide (("draws" : Str) = "at") = false := by decide
  simp [lookD, W, List.find?_cons, h]
theorem W_put (ns : List Int) (k j : Int) : putD (W ns k) (.inr ("at" : Str)) (.int j) = W ns j := by
  have h : ¬ (("draws" : Str) = "at") := by decide
  simp [putD, W, h]
theorem W_len (ns : List Int) (k : Int) : (W ns k).length = 2 := rfl
/-- data that _law_same finds equal to itself -/
def sg : Nat → D → Prop
  | _, .none => True
  | _, .bool _ => True
  | _, .int _ => True
  | _, .str x => shp (.str x) = true
  | m + 1, .tuple ds => ds.length ≤ lim ∧ ∀ d ∈ ds, sg m d
  | _, _ => False
theorem sg_cp (m : Nat) (q : Rat) : sg (m + 1) (cp q) := ⟨(by decide : 2 ≤ lim), fun d hd => by
  rcases List.mem_cons.mp hd with rfl | hd
  · cases m <;> trivial
  · rcases List.mem_cons.mp hd with rfl | hd
    · cases m <;> trivial
    · cases hd⟩
theorem sg_int (m : Nat) (i : Int) : sg m (.int i) := by cases m <;> trivial
theorem sg_none (m : Nat) : sg m .none := by cases m <;> trivial
theorem sg_bool (m : Nat) (b : Bool) : sg m (.bool b) := by cases m <;> trivial
theorem sg_tup {m : Nat} {ds : List D} (h : ds.length ≤ lim) (k : ∀ d ∈ ds, sg m d) : sg (m + 1) (.tuple ds) := ⟨h, k⟩
theorem eqD_self_str {x : Str} (h : shp (.str x) = true) : eqD (.str x) (.str x) = some true := by
  show (if _ then _ else _) = _
  rw [if_pos ⟨h, h⟩]
  show some (x == x) = _
  rw [beq_self_eq_true]
theorem eqD_bool (a b : Bool) : eqD (.bool a) (.bool b) = some (a == b) := by
  show (if _ then _ else _) = _
  rw [if_pos ⟨rfl, rfl⟩]
  rfl
theorem eqD_nil : eqD (.list []) (.list []) = some true := rfl
theorem rngD_map (n : Nat) : rngD 0 n = (List.range n).map fun i : Nat => PyData.int (i : Int) := by unfold rngD; simp
theorem for_next {Y : Sys} {tg : Tg} {it : I} {b : B} {en en1 en2 : En} {ds : List D} (hi : evI Y it en = some (ds, en1)) (hl : loopF (evG tg) (evB Y b) ds en1 = some (.next, en2)) : evS Y (.for tg it b) en = some (.next, en2) := by
  rw [evS]; unfold fFor; rw [hi]; exact hl
theorem for_any {Y : Sys} {tg : Tg} {it : I} {b : B} {en en1 : En} {ds : List D} {x : Option (Fl × En)} (hi : evI Y it en = some (ds, en1)) (hl : loopF (evG tg) (evB Y b) ds en1 = x) : evS Y (.for tg it b) en = x := by
  rw [evS]; unfold fFor; rw [hi]; exact hl
theorem comp_ev {Y : Sys} {elt : E} {tg : Tg} {it : I} {c : C} {own : List (Str × Nat)} {en en1 en2 : En} {ds r : List D} (hi : evI Y it en = some (ds, en1)) (hl : ds.length ≤ lim) (hc : cLoop (own.map (·.2)) (evG tg) (evC Y c) (evE Y elt) ds (wipeE en1 (own.map (·.2))) = some (r, en2)) :
    evL Y (.comp elt tg it c own) en = some (r, unwipe en1 en2 (own.map (·.2))) := by
  rw [evL]; unfold fComp; rw [hi, Option.bind_some, if_pos hl, hc]; rfl
theorem lvl {P : Nat → Prop} (k : Nat) (h : ∀ n, P (n + k)) (m : Nat) (hm : k ≤ m) : P m := by
  have := h (m - k)
  rw [Nat.sub_add_cancel hm] at this
  exact this
theorem rng1_ev {Y : Sys} {as : Os} {en en1 : En} {os : List Op} {m : Int} {k : Nat} (h : evOs Y as en = some (os, en1)) (h2 : rsAll os en1 = some [.int m]) (hm : m = (k : Int)) (hk : k ≤ 100000) : evI Y (.rng1 as) en = some (rngD 0 k, en1) := by
  rw [evI]; unfold fRng1
  rw [h, Option.bind_some, h2, Option.bind_some]
  show (if -1000000 ≤ m ∧ m ≤ 1000000 then some (rngD 0 m.toNat, en1) else none) = _
  rw [if_pos (by omega), hm, Int.toNat_natCast]
theorem rng2_ev {Y : Sys} {as : Os} {en en1 : En} {os : List Op} {lo m : Int} {a k : Nat} (h : evOs Y as en = some (os, en1)) (h2 : rsAll os en1 = some [.int lo, .int m]) (ha : lo = (a : Int)) (hm : (m - lo).toNat = k) (hl : a ≤ 100000) (hk : k ≤ 100000) (hn : -100000 ≤ m) : evI Y (.rng2 as) en = some (rngD (a : Int) k, en1) := by
  rw [evI]; unfold fRng2
  rw [h, Option.bind_some, h2, Option.bind_some]
  show (if -1000000 ≤ lo ∧ lo ≤ 1000000 ∧ -1000000 ≤ m ∧ m ≤ 1000000 then some (rngD lo (m - lo).toNat, en1) else none) = _
  rw [if_pos (by omega), hm, ha]
theorem cp_zero : PyData.tuple [.int 0, .int 1] = cp 0 := rfl
theorem cp_one : PyData.tuple [.int 1, .int 1] = cp 1 := rfl
theorem bd0 : Bd 0 0 := ⟨by decide, by decide⟩
theorem bd1 : Bd 0 1 := ⟨by decide, by decide⟩
theorem fn_lenL (xs : List D) : fnD .len [.list xs] = some (.int xs.length) := rfl
theorem fn_lenT (xs : List D) : fnD .len [.tuple xs] = some (.int xs.length) := rfl
theorem fn_max2 (i j : Int) : fnD .max2 [.int i, .int j] = some (.int (if j > i then j else i)) := rfl
theorem fn_abs (i : Int) : fnD .abs [.int i] = some (.int (if i < 0 then -i else i)) := rfl
theorem fn_int (i : Int) : fnD .int [.int i] = some (.int i) := rfl
theorem fn_intb (b : Bool) : fnD .int [.bool b] = some (.int (if b then 1 else 0)) := rfl
theorem at_l (xs : List D) (i : Int) : atD (.list xs) (.int i) = atI xs i := rfl
theorem at_t (xs : List D) (i : Int) : atD (.tuple xs) (.int i) = atI xs i := rfl
theorem seq_l (xs : List D) : seqV (.list xs) = some xs := rfl
theorem seq_t (xs : List D) : seqV (.tuple xs) = some xs := rfl
theorem fcomp {Y : Sys} {L : L} {en en1 : En} {r : List D} (h : evL Y L en = some (r, en1)) : evE Y (.fresh L) en = some (.dat (.list r), en1) := by
  rw [evE]; unfold fFresh; rw [h]; rfl
theorem absD (i : Int) : (if i < 0 then -i else i) = (i.natAbs : Int) := by split <;> omega
end Pf

set_option maxHeartbeats 4000000
namespace K31
open PySem L2 Pf
def b_is_number : B := (.cons (.ret (.test (.and (.cons (.val (.isi .int (.slot 0))) (.one (.not (.val (.isi .bool (.slot 0)))))))))
    .nil)
def b_is_below : B := (.cons (.ret (.test (.and (.cons (.val (.call "is_number" 0 (.cons (.var 0) .nil))) (.one (.chain .le .lt (.val (.lit (.int 0))) (.slot 0) (.slot 1)))))))
    .nil)
def c_gaps_of_1i : I := (.rng1 (.cons (.val (.fn .len (.cons (.slot 0) .nil))) .nil))
def c_gaps_of_1c : C := (.one (.cmp .eq (.val (.at (.slot 0) (.slot 3))) (.slot 1)))
def c_gaps_of_1e : E := (.var 3)
def c_gaps_of_1 : L := (.comp c_gaps_of_1e (.name 3) c_gaps_of_1i c_gaps_of_1c [("k", 3)])
def c_gaps_of_2i : I := (.rng1 (.cons (.val (.bin .sub (.val (.fn .len (.cons (.slot 2) .nil))) (.val (.lit (.int 1))))) .nil))
def c_gaps_of_2c : C := .yes
def c_gaps_of_2e : E := (.bin .sub (.val (.at (.slot 2) (.val (.bin .add (.slot 3) (.val (.lit (.int 1))))))) (.val (.at (.slot 2) (.slot 3))))
def c_gaps_of_2 : L := (.comp c_gaps_of_2e (.name 3) c_gaps_of_2i c_gaps_of_2c [("k", 3)])
def b_gaps_of : B := (.cons (.asgL 2 c_gaps_of_1)
    (.cons (.ret (.tupOf (.val (.fresh c_gaps_of_2))))
    .nil))
def b_last_place_1 : B := (.cons (.ife (.cmp .eq (.val (.at (.slot 0) (.slot 2))) (.slot 1)) (.cons (.ret (.var 2))
    .nil) .nil)
    .nil)
def b_last_place : B := (.cons (.for (.name 2) (.rngB (.cons (.val (.bin .sub (.val (.fn .len (.cons (.slot 0) .nil))) (.val (.lit (.int 1))))) (.cons (.val (.neg (.val (.lit (.int 1))))) (.cons (.val (.neg (.val (.lit (.int 1))))) .nil)))) b_last_place_1)
    (.cons (.ret (.lit .none))
    .nil))
def b_can_follow : B := (.cons (.asgT (.tup 3 (.cons (.name 3) (.cons (.name 4) (.cons (.name 5) .nil)))) (.at (.slot 0) (.slot 2)))
    (.cons (.asg 6 (.call "last_place" 3 (.cons (.var 1) (.cons (.var 2) .nil))))
    (.cons (.ife (.cmp .ge (.val (.cntG (.slot 1) (.slot 2))) (.slot 3)) (.cons (.ret (.lit (.bool false)))
    .nil) .nil)
    (.cons (.ret (.test (.or (.cons (.cmp .is (.slot 6) (.val (.lit .none))) (.one (.chain .le .le (.slot 4) (.val (.bin .sub (.val (.fn .len (.cons (.slot 1) .nil))) (.slot 6))) (.slot 5)))))))
    .nil))))
def c_could_follow_1i : I := (.rng1 (.cons (.val (.fn .len (.cons (.slot 0) .nil))) .nil))
def c_could_follow_1c : C := (.one (.val (.call "can_follow" 4 (.cons (.var 0) (.cons (.var 1) (.cons (.var 2) .nil))))))
def c_could_follow_1e : E := (.var 2)
def c_could_follow_1 : L := (.comp c_could_follow_1e (.name 2) c_could_follow_1i c_could_follow_1c [("topic", 2)])
def b_could_follow : B := (.cons (.ret (.tupOf (.val (.fresh c_could_follow_1))))
    .nil)
def b_is_lost_1 : B := (.cons (.asgT (.tup 3 (.cons (.name 3) (.cons (.name 4) (.cons (.name 5) .nil)))) (.at (.slot 0) (.slot 2)))
    (.cons (.asg 6 (.call "last_place" 3 (.cons (.var 1) (.cons (.var 2) .nil))))
    (.cons (.ife (.and (.cons (.cmp .isnot (.slot 6) (.val (.lit .none))) (.cons (.cmp .lt (.val (.cntG (.slot 1) (.slot 2))) (.slot 3)) (.one (.cmp .gt (.val (.bin .sub (.val (.fn .len (.cons (.slot 1) .nil))) (.slot 6))) (.slot 5)))))) (.cons (.ret (.lit (.bool true)))
    .nil) .nil)
    .nil)))
def b_is_lost : B := (.cons (.for (.name 2) (.rng1 (.cons (.val (.fn .len (.cons (.slot 0) .nil))) .nil)) b_is_lost_1)
    (.cons (.ret (.lit (.bool false)))
    .nil))
def c_row_from_1i : I := (.rng1 (.cons (.val (.fn .len (.cons (.slot 0) .nil))) .nil))
def c_row_from_1c : C := .yes
def c_row_from_1e : E := (.test (.cmp .eq (.val (.cntG (.slot 2) (.slot 5))) (.val (.at (.val (.at (.slot 0) (.slot 5))) (.val (.lit (.int 0)))))))
def c_row_from_1 : L := (.comp c_row_from_1e (.name 5) c_row_from_1i c_row_from_1c [("topic", 5)])
def b_row_from_1 : B := (.cons (.ife (.not (.val (.call "is_lost" 6 (.cons (.var 0) (.cons (.bin .add (.slot 2) (.val (.tup (.cons (.var 3) .nil)))) .nil))))) (.cons (.asg 4 (.call "row_from" 7 (.cons (.var 0) (.cons (.var 1) (.cons (.bin .add (.slot 2) (.val (.tup (.cons (.var 3) .nil)))) .nil)))))
    (.cons (.ife (.cmp .isnot (.slot 4) (.val (.lit .none))) (.cons (.ret (.var 4))
    .nil) .nil)
    .nil)) .nil)
    .nil)
def b_row_from : B := (.cons (.ife (.cmp .eq (.val (.fn .len (.cons (.slot 2) .nil))) (.slot 1)) (.cons (.ret (.ite (.val (.fn .all (.cons (.val (.fresh c_row_from_1)) .nil))) (.var 2) (.lit .none)))
    .nil) .nil)
    (.cons (.for (.name 3) (.seq (.bin .add (.val (.call "could_follow" 5 (.cons (.var 0) (.cons (.var 2) .nil)))) (.val (.tup (.cons (.lit .none) .nil))))) b_row_from_1)
    (.cons (.ret (.lit .none))
    .nil)))
def b_back_row : B := (.cons (.ret (.call "row_from" 7 (.cons (.var 0) (.cons (.var 1) (.cons (.tup .nil) .nil)))))
    .nil)
def c_is_back_row_1i : I := (.seq (.var 2))
def c_is_back_row_1c : C := .yes
def c_is_back_row_1e : E := (.test (.or (.cons (.cmp .is (.slot 7) (.val (.lit .none))) (.one (.val (.call "is_below" 1 (.cons (.var 7) (.cons (.fn .len (.cons (.slot 0) .nil)) .nil))))))))
def c_is_back_row_1 : L := (.comp c_is_back_row_1e (.name 7) c_is_back_row_1i c_is_back_row_1c [("one", 7)])
def c_is_back_row_2i : I := (.seq (.call "gaps_of" 2 (.cons (.var 2) (.cons (.var 3) .nil))))
def c_is_back_row_2c : C := .yes
def c_is_back_row_2e : E := (.test (.chain .le .le (.slot 5) (.slot 8) (.slot 6)))
def c_is_back_row_2 : L := (.comp c_is_back_row_2e (.name 8) c_is_back_row_2i c_is_back_row_2c [("gap", 8)])
def b_is_back_row_1 : B := (.cons (.asgT (.tup 3 (.cons (.name 4) (.cons (.name 5) (.cons (.name 6) .nil)))) (.at (.slot 0) (.slot 3)))
    (.cons (.ife (.or (.cons (.cmp .ne (.val (.cntG (.slot 2) (.slot 3))) (.slot 4)) (.one (.not (.val (.fn .all (.cons (.val (.fresh c_is_back_row_2)) .nil))))))) (.cons (.ret (.lit (.bool false)))
    .nil) .nil)
    .nil))
def b_is_back_row : B := (.cons (.ife (.or (.cons (.not (.val (.isi .tuple (.slot 2)))) (.one (.cmp .ne (.val (.fn .len (.cons (.slot 2) .nil))) (.slot 1))))) (.cons (.ret (.lit (.bool false)))
    .nil) .nil)
    (.cons (.ife (.not (.val (.fn .all (.cons (.val (.fresh c_is_back_row_1)) .nil)))) (.cons (.ret (.lit (.bool false)))
    .nil) .nil)
    (.cons (.for (.name 3) (.rng1 (.cons (.val (.fn .len (.cons (.slot 0) .nil))) .nil)) b_is_back_row_1)
    (.cons (.ret (.lit (.bool true)))
    .nil))))
def b_least_places_1 : B := (.cons (.ife (.cmp .isnot (.val (.call "back_row" 8 (.cons (.var 0) (.cons (.var 2) .nil)))) (.val (.lit .none))) (.cons (.ret (.var 2))
    .nil) .nil)
    .nil)
def b_least_places : B := (.cons (.for (.name 2) (.rng1 (.cons (.val (.bin .add (.slot 1) (.val (.lit (.int 1))))) .nil)) b_least_places_1)
    (.cons (.ret (.lit .none))
    .nil))
def b__law_draws_2 : B := (.cons (.ife (.cmp .gt (.slot 6) (.val (.lit (.int 0)))) (.cons (.app 2 (.bin .mod (.val (.fn .int (.cons (.slot 6) .nil))) (.val (.lit (.int 997)))))
    (.cons (.asg 6 (.bin .fdiv (.slot 6) (.val (.lit (.int 997)))))
    .nil)) .nil)
    .nil)
def b__law_draws_1 : B := (.cons (.asg 5 (.fn .abs (.cons (.val (.fn .int (.cons (.val (.atR 0 (.slot 4))) .nil))) .nil)))
    (.cons (.asg 3 (.bin .mod (.val (.fn .int (.cons (.val (.bin .add (.val (.bin .add (.val (.bin .mul (.slot 3) (.val (.lit (.int 48271))))) (.val (.bin .mod (.slot 5) (.val (.lit (.int 1000003))))))) (.slot 4))) .nil))) (.val (.lit (.int 65537)))))
    (.cons (.asg 6 (.lit (.int 0)))
    (.cons (.ife (.cmp .ge (.slot 5) (.val (.bin .pow (.val (.lit (.int 10))) (.val (.lit (.int 18)))))) (.cons (.asg 6 (.var 5))
    .nil) (.cons (.app 2 (.bin .mod (.val (.fn .int (.cons (.slot 5) .nil))) (.val (.lit (.int 997)))))
    (.cons (.app 2 (.bin .mod (.val (.bin .mod (.val (.fn .int (.cons (.val (.bin .add (.val (.bin .mul (.slot 3) (.val (.lit (.int 69621))))) (.val (.lit (.int 5))))) .nil))) (.val (.lit (.int 65521))))) (.val (.lit (.int 997)))))
    .nil)))
    (.cons (.for (.name 7) (.rng1 (.cons (.val (.lit (.int 60))) .nil)) b__law_draws_2)
    .nil)))))
def b__law_draws_3 : B := (.cons (.asg 3 (.bin .mod (.val (.fn .int (.cons (.val (.bin .add (.val (.bin .add (.val (.bin .mul (.slot 3) (.val (.lit (.int 16807))))) (.slot 4))) (.val (.lit (.int 1))))) .nil))) (.val (.lit (.int 65537)))))
    (.cons (.app 2 (.bin .mod (.val (.fn .int (.cons (.slot 3) .nil))) (.val (.lit (.int 997)))))
    .nil))
def b__law_draws : B := (.cons (.asgL 2 (.disp .nil))
    (.cons (.asg 3 (.lit (.int 7)))
    (.cons (.for (.name 4) (.rng1 (.cons (.val (.lenR 0)) .nil)) b__law_draws_1)
    (.cons (.for (.name 4) (.rng1 (.cons (.slot 1) .nil)) b__law_draws_3)
    (.cons (.ret (.cut (.slot 2) .no (.yes (.slot 1))))
    .nil)))))
def b__law_next : B := (.cons (.augD 0 (.val (.lit (.str "at"))) (.val (.lit (.int 1))))
    (.cons (.ife (.cmp .gt (.val (.atD (.slot 0) (.val (.lit (.str "at"))))) (.val (.fn .len (.cons (.val (.atD (.slot 0) (.val (.lit (.str "draws"))))) .nil)))) (.cons (.ret (.lit (.int 0)))
    .nil) .nil)
    (.cons (.ret (.bin .mod (.val (.fn .int (.cons (.val (.at (.val (.atD (.slot 0) (.val (.lit (.str "draws"))))) (.val (.bin .sub (.val (.atD (.slot 0) (.val (.lit (.str "at"))))) (.val (.lit (.int 1))))))) .nil))) (.slot 1)))
    .nil)))
def b__law_pick : B := (.cons (.ret (.at (.slot 1) (.val (.callW "_law_next" 12 0 (.cons (.fn .len (.cons (.slot 1) .nil)) .nil)))))
    .nil)
def b__law_says : B := (.cons (.ret (.test (.and (.cons (.val (.isi .bool (.slot 0))) (.one (.cmp .eq (.slot 0) (.slot 1)))))))
    .nil)
def c__law_same_1i : I := (.rng1 (.cons (.val (.fn .len (.cons (.slot 1) .nil))) .nil))
def c__law_same_1c : C := (.one (.not (.val (.call "_law_same" 15 (.cons (.at (.slot 0) (.slot 2)) (.cons (.at (.slot 1) (.slot 2)) .nil))))))
def c__law_same_1e : E := (.var 2)
def c__law_same_1 : L := (.comp c__law_same_1e (.name 2) c__law_same_1i c__law_same_1c [("k", 2)])
def b__law_same : B := (.cons (.ife (.val (.isi .tuple (.slot 1))) (.cons (.ife (.or (.cons (.not (.val (.isi .tuple (.slot 0)))) (.one (.cmp .ne (.val (.fn .len (.cons (.slot 0) .nil))) (.val (.fn .len (.cons (.slot 1) .nil))))))) (.cons (.ret (.lit (.bool false)))
    .nil) .nil)
    (.cons (.ret (.test (.cmp .eq (.val (.fresh c__law_same_1)) (.val (.fresh (.disp .nil))))))
    .nil)) .nil)
    (.cons (.ife (.cmp .is (.slot 1) (.val (.lit .none))) (.cons (.ret (.test (.cmp .is (.slot 0) (.val (.lit .none)))))
    .nil) .nil)
    (.cons (.ife (.val (.isi .str (.slot 1))) (.cons (.ret (.test (.and (.cons (.val (.isi .str (.slot 0))) (.one (.cmp .eq (.slot 0) (.slot 1)))))))
    .nil) .nil)
    (.cons (.ret (.test (.and (.cons (.val (.isi .int (.slot 0))) (.cons (.cmp .eq (.val (.isi .bool (.slot 0))) (.val (.isi .bool (.slot 1)))) (.one (.cmp .eq (.slot 0) (.slot 1))))))))
    .nil))))
def b__law_bent : B := (.cons (.ife (.and (.cons (.val (.isi .tuple (.slot 1))) (.cons (.cmp .ne (.slot 1) (.val (.tup .nil))) (.one (.cmp .gt (.val (.callW "_law_next" 12 0 (.cons (.lit (.int 4)) .nil))) (.val (.lit (.int 0)))))))) (.cons (.asg 2 (.callW "_law_next" 12 0 (.cons (.fn .len (.cons (.slot 1) .nil)) .nil)))
    (.cons (.ret (.bin .add (.val (.bin .add (.val (.cut (.slot 1) .no (.yes (.slot 2)))) (.val (.tup (.cons (.callW "_law_bent" 16 0 (.cons (.at (.slot 1) (.slot 2)) .nil)) .nil))))) (.val (.cut (.slot 1) (.yes (.val (.bin .add (.slot 2) (.val (.lit (.int 1)))))) .no))))
    .nil)) .nil)
    (.cons (.ife (.val (.isi .tuple (.slot 1))) (.cons (.asg 2 (.callW "_law_next" 12 0 (.cons (.bin .add (.val (.fn .len (.cons (.slot 1) .nil))) (.val (.lit (.int 1)))) .nil)))
    (.cons (.ret (.callW "_law_pick" 13 0 (.cons (.fresh (.disp (.cons (.bin .add (.val (.cut (.slot 1) .no (.yes (.slot 2)))) (.val (.cut (.slot 1) (.yes (.val (.bin .add (.slot 2) (.val (.lit (.int 1)))))) .no))) (.cons (.bin .add (.slot 1) (.val (.cut (.slot 1) (.yes (.val (.neg (.val (.lit (.int 1)))))) .no))) (.cons (.rev (.var 1)) (.cons (.lit .none) (.cons (.tup .nil) (.cons (.fresh (.of (.slot 1))) .nil)))))))) .nil)))
    .nil)) .nil)
    (.cons (.ife (.val (.isi .str (.slot 1))) (.cons (.ret (.callW "_law_pick" 13 0 (.cons (.fresh (.disp (.cons (.lit (.str "is")) (.cons (.lit (.str "not")) (.cons (.lit (.str "")) (.cons (.lit (.str "suppose")) (.cons (.lit (.str "A")) (.cons (.lit .none) (.cons (.lit (.int 0)) (.cons (.lit (.str "add")) (.cons (.lit (.str "both")) (.cons (.lit (.str "so")) .nil)))))))))))) .nil)))
    .nil) .nil)
    (.cons (.ret (.ite (.val (.isi .int (.slot 1))) (.callW "_law_pick" 13 0 (.cons (.fresh (.disp (.cons (.bin .add (.slot 1) (.val (.lit (.int 1)))) (.cons (.bin .sub (.slot 1) (.val (.lit (.int 1)))) (.cons (.lit (.int 0)) (.cons (.lit (.int 1)) (.cons (.lit (.bool true)) (.cons (.bin .add (.slot 1) (.val (.lit (.int 7)))) (.cons (.lit .none) .nil))))))))) .nil)) (.lit (.int 0))))
    .nil))))
def b__law_is_number : B := (.cons (.ret (.test (.and (.cons (.val (.isi .int (.slot 0))) (.one (.not (.val (.isi .bool (.slot 0)))))))))
    .nil)
def c__law_gaps_1i : I := (.rng1 (.cons (.val (.fn .len (.cons (.slot 0) .nil))) .nil))
def c__law_gaps_1c : C := (.one (.and (.cons (.cmp .eq (.val (.at (.slot 0) (.slot 3))) (.slot 1)) (.one (.cmp .isnot (.val (.at (.slot 0) (.slot 3))) (.val (.lit .none)))))))
def c__law_gaps_1e : E := (.var 3)
def c__law_gaps_1 : L := (.comp c__law_gaps_1e (.name 3) c__law_gaps_1i c__law_gaps_1c [("k", 3)])
def c__law_gaps_2i : I := (.rng2 (.cons (.val (.lit (.int 1))) (.cons (.val (.fn .len (.cons (.slot 2) .nil))) .nil)))
def c__law_gaps_2c : C := .yes
def c__law_gaps_2e : E := (.bin .sub (.val (.at (.slot 2) (.slot 3))) (.val (.at (.slot 2) (.val (.bin .sub (.slot 3) (.val (.lit (.int 1))))))))
def c__law_gaps_2 : L := (.comp c__law_gaps_2e (.name 3) c__law_gaps_2i c__law_gaps_2c [("k", 3)])
def b__law_gaps : B := (.cons (.asgL 2 c__law_gaps_1)
    (.cons (.ret (.fresh c__law_gaps_2))
    .nil))
def c__law_many_1i : I := (.rng1 (.cons (.val (.fn .len (.cons (.slot 0) .nil))) .nil))
def c__law_many_1c : C := (.one (.and (.cons (.cmp .isnot (.val (.at (.slot 0) (.slot 2))) (.val (.lit .none))) (.one (.cmp .eq (.val (.at (.slot 0) (.slot 2))) (.slot 1))))))
def c__law_many_1e : E := (.var 2)
def c__law_many_1 : L := (.comp c__law_many_1e (.name 2) c__law_many_1i c__law_many_1c [("k", 2)])
def b__law_many : B := (.cons (.ret (.fn .len (.cons (.val (.fresh c__law_many_1)) .nil)))
    .nil)
def c__law_is_row_1i : I := (.seq (.var 2))
def c__law_is_row_1c : C := (.one (.and (.cons (.cmp .isnot (.slot 7) (.val (.lit .none))) (.one (.or (.cons (.not (.val (.call "_law_is_number" 17 (.cons (.var 7) .nil)))) (.one (.not (.chain .le .lt (.val (.lit (.int 0))) (.slot 7) (.val (.fn .len (.cons (.slot 0) .nil))))))))))))
def c__law_is_row_1e : E := (.var 7)
def c__law_is_row_1 : L := (.comp c__law_is_row_1e (.name 7) c__law_is_row_1i c__law_is_row_1c [("one", 7)])
def c__law_is_row_2i : I := (.seq (.call "_law_gaps" 18 (.cons (.var 2) (.cons (.var 3) .nil))))
def c__law_is_row_2c : C := (.one (.not (.chain .le .le (.slot 5) (.slot 8) (.slot 6))))
def c__law_is_row_2e : E := (.var 8)
def c__law_is_row_2 : L := (.comp c__law_is_row_2e (.name 8) c__law_is_row_2i c__law_is_row_2c [("gap", 8)])
def b__law_is_row_1 : B := (.cons (.asgT (.tup 3 (.cons (.name 4) (.cons (.name 5) (.cons (.name 6) .nil)))) (.at (.slot 0) (.slot 3)))
    (.cons (.ife (.or (.cons (.cmp .ne (.val (.call "_law_many" 19 (.cons (.var 2) (.cons (.var 3) .nil)))) (.slot 4)) (.one (.cmp .ne (.val (.fresh c__law_is_row_2)) (.val (.fresh (.disp .nil))))))) (.cons (.ret (.lit (.bool false)))
    .nil) .nil)
    .nil))
def b__law_is_row : B := (.cons (.ife (.or (.cons (.not (.val (.isi .tuple (.slot 2)))) (.one (.cmp .ne (.val (.fn .len (.cons (.slot 2) .nil))) (.slot 1))))) (.cons (.ret (.lit (.bool false)))
    .nil) .nil)
    (.cons (.ife (.cmp .ne (.val (.fresh c__law_is_row_1)) (.val (.fresh (.disp .nil)))) (.cons (.ret (.lit (.bool false)))
    .nil) .nil)
    (.cons (.for (.name 3) (.rng1 (.cons (.val (.fn .len (.cons (.slot 0) .nil))) .nil)) b__law_is_row_1)
    (.cons (.ret (.lit (.bool true)))
    .nil))))
def c__law_first_1i : I := (.rng1 (.cons (.val (.fn .len (.cons (.slot 0) .nil))) .nil))
def c__law_first_1c : C := (.one (.cmp .gt (.val (.call "_law_many" 19 (.cons (.var 8) (.cons (.var 11) .nil)))) (.val (.at (.val (.at (.slot 0) (.slot 11))) (.val (.lit (.int 0)))))))
def c__law_first_1e : E := (.var 11)
def c__law_first_1 : L := (.comp c__law_first_1e (.name 11) c__law_first_1i c__law_first_1c [("t", 11)])
def c__law_first_2i : I := (.seq (.cut (.slot 10) (.yes (.val (.bin .sub (.val (.fn .len (.cons (.slot 10) .nil))) (.val (.lit (.int 1)))))) .no))
def c__law_first_2c : C := (.one (.not (.chain .le .le (.val (.at (.val (.at (.slot 0) (.slot 7))) (.val (.lit (.int 1))))) (.slot 12) (.val (.at (.val (.at (.slot 0) (.slot 7))) (.val (.lit (.int 2))))))))
def c__law_first_2e : E := (.var 12)
def c__law_first_2 : L := (.comp c__law_first_2e (.name 12) c__law_first_2i c__law_first_2c [("gap", 12)])
def b__law_first_3 : B := (.cons (.asg 8 (.bin .add (.slot 6) (.val (.tup (.cons (.var 7) .nil)))))
    (.cons (.asgL 9 c__law_first_1)
    (.cons (.ife (.and (.cons (.cmp .isnot (.slot 7) (.val (.lit .none))) (.one (.cmp .eq (.slot 9) (.val (.fresh (.disp .nil))))))) (.cons (.asg 10 (.call "_law_gaps" 18 (.cons (.var 8) (.cons (.var 7) .nil))))
    (.cons (.asgL 9 c__law_first_2)
    .nil)) .nil)
    (.cons (.ife (.cmp .eq (.slot 9) (.val (.fresh (.disp .nil)))) (.cons (.app 5 (.var 8))
    .nil) .nil)
    .nil))))
def b__law_first_2 : B := (.cons (.for (.name 7) (.seq (.bin .add (.val (.fresh (.ofR1 (.val (.fn .len (.cons (.slot 0) .nil)))))) (.val (.fresh (.disp (.cons (.lit .none) .nil)))))) b__law_first_3)
    .nil)
def b__law_first_1 : B := (.cons (.asgL 5 (.disp .nil))
    (.cons (.for (.name 6) (.seq (.var 2)) b__law_first_2)
    (.cons (.asg 2 (.var 5))
    .nil)))
def c__law_first_3i : I := (.seq (.var 2))
def c__law_first_3c : C := (.one (.val (.call "_law_is_row" 20 (.cons (.var 0) (.cons (.var 1) (.cons (.var 6) .nil))))))
def c__law_first_3e : E := (.var 6)
def c__law_first_3 : L := (.comp c__law_first_3e (.name 6) c__law_first_3i c__law_first_3c [("row", 6)])
def b__law_first : B := (.cons (.asg 2 (.fresh (.disp (.cons (.tup .nil) .nil))))
    (.cons (.for (.name 3) (.rng1 (.cons (.slot 1) .nil)) b__law_first_1)
    (.cons (.asgL 4 c__law_first_3)
    (.cons (.ret (.ite (.cmp .ne (.slot 4) (.val (.fresh (.disp .nil)))) (.at (.slot 4) (.val (.lit (.int 0)))) (.lit .none)))
    .nil))))
def s_law_1 : S := (.asgL 3 (.disp .nil))
def s_law_2 : S := (.asg 11 (.bin .add (.val (.lit (.int 1))) (.val (.callW "_law_next" 12 1 (.cons (.lit (.int 3)) .nil)))))
def s_law_3 : S := (.app 3 (.tup (.cons (.bin .add (.val (.lit (.int 1))) (.val (.callW "_law_next" 12 1 (.cons (.lit (.int 2)) .nil)))) (.cons (.var 11) (.cons (.bin .add (.slot 11) (.val (.callW "_law_next" 12 1 (.cons (.lit (.int 2)) .nil)))) .nil)))))
def b_law_2 : B := (.cons s_law_2
    (.cons s_law_3
    .nil))
def s_law_4 : S := (.for (.name 4) (.rng1 (.cons (.val (.callW "_law_next" 12 1 (.cons (.lit (.int 4)) .nil))) .nil)) b_law_2)
def s_law_5 : S := (.asgT (.tup 2 (.cons (.name 3) (.cons (.name 5) .nil))) (.tup (.cons (.tupOf (.slot 3)) (.cons (.callW "_law_next" 12 1 (.cons (.lit (.int 6)) .nil)) .nil))))
def s_law_6 : S := (.asg 6 (.call "_law_first" 21 (.cons (.var 3) (.cons (.var 5) .nil))))
def s_law_7 : S := (.ife (.not (.val (.call "_law_same" 15 (.cons (.call "back_row" 8 (.cons (.var 3) (.cons (.var 5) .nil))) (.cons (.var 6) .nil))))) (.cons (.ret (.lit (.bool false)))
    .nil) .nil)
def c_law_1i : I := (.rng1 (.cons (.val (.lit (.int 6))) .nil))
def c_law_1c : C := (.one (.cmp .isnot (.val (.call "_law_first" 21 (.cons (.var 3) (.cons (.var 15) .nil)))) (.val (.lit .none))))
def c_law_1e : E := (.var 15)
def c_law_1 : L := (.comp c_law_1e (.name 15) c_law_1i c_law_1c [("many", 15)])
def s_law_8 : S := (.asgL 7 c_law_1)
def s_law_9 : S := (.ife (.not (.val (.call "_law_same" 15 (.cons (.call "least_places" 10 (.cons (.var 3) (.cons (.lit (.int 5)) .nil))) (.cons (.ite (.cmp .ne (.slot 7) (.val (.fresh (.disp .nil)))) (.at (.slot 7) (.val (.lit (.int 0)))) (.lit .none)) .nil))))) (.cons (.ret (.lit (.bool false)))
    .nil) .nil)
def c_law_2i : I := (.rng1 (.cons (.val (.callW "_law_next" 12 1 (.cons (.lit (.int 5)) .nil))) .nil))
def c_law_2c : C := .yes
def c_law_2e : E := (.callW "_law_pick" 13 1 (.cons (.bin .add (.val (.fresh (.ofR1 (.val (.fn .len (.cons (.slot 3) .nil)))))) (.val (.fresh (.disp (.cons (.lit .none) .nil))))) .nil))
def c_law_2 : L := (.comp c_law_2e (.name 16) c_law_2i c_law_2c [("k", 16)])
def s_law_10 : S := (.asg 8 (.tupOf (.val (.fresh c_law_2))))
def s_law_11 : S := (.asgL 9 (.disp .nil))
def s_law_12 : S := (.par [12, 13] (.val (.call "_law_gaps" 18 (.cons (.bin .add (.slot 8) (.val (.tup (.cons (.var 4) .nil)))) (.cons (.var 4) .nil))) (.val (.call "_law_many" 19 (.cons (.var 8) (.cons (.var 4) .nil))) .nil)))
def c_law_3i : I := (.seq (.cut (.slot 12) (.yes (.val (.bin .sub (.val (.fn .len (.cons (.slot 12) .nil))) (.val (.lit (.int 1)))))) .no))
def c_law_3c : C := (.one (.not (.chain .le .le (.val (.at (.val (.at (.slot 3) (.slot 4))) (.val (.lit (.int 1))))) (.slot 17) (.val (.at (.val (.at (.slot 3) (.slot 4))) (.val (.lit (.int 2))))))))
def c_law_3e : E := (.var 17)
def c_law_3 : L := (.comp c_law_3e (.name 17) c_law_3i c_law_3c [("gap", 17)])
def s_law_13 : S := (.ife (.and (.cons (.cmp .lt (.slot 13) (.val (.at (.val (.at (.slot 3) (.slot 4))) (.val (.lit (.int 0)))))) (.one (.cmp .eq (.val (.fresh c_law_3)) (.val (.fresh (.disp .nil))))))) (.cons (.app 9 (.var 4))
    .nil) .nil)
def b_law_3 : B := (.cons s_law_12
    (.cons s_law_13
    .nil))
def s_law_14 : S := (.for (.name 4) (.rng1 (.cons (.val (.fn .len (.cons (.slot 3) .nil))) .nil)) b_law_3)
def s_law_15 : S := (.ife (.not (.val (.call "_law_same" 15 (.cons (.call "could_follow" 5 (.cons (.var 3) (.cons (.var 8) .nil))) (.cons (.tupOf (.slot 9)) .nil))))) (.cons (.ret (.lit (.bool false)))
    .nil) .nil)
def s_law_16 : S := (.ife (.not (.val (.call "_law_same" 15 (.cons (.call "gaps_of" 2 (.cons (.var 8) (.cons (.var 4) .nil))) (.cons (.tupOf (.val (.call "_law_gaps" 18 (.cons (.var 8) (.cons (.var 4) .nil))))) .nil))))) (.cons (.ret (.lit (.bool false)))
    .nil) .nil)
def b_law_4 : B := (.cons s_law_16
    .nil)
def s_law_17 : S := (.for (.name 4) (.rng1 (.cons (.val (.fn .len (.cons (.slot 3) .nil))) .nil)) b_law_4)
def s_law_18 : S := (.asg 14 (.ite (.and (.cons (.cmp .eq (.slot 10) (.val (.lit (.int 0)))) (.one (.cmp .isnot (.slot 6) (.val (.lit .none)))))) (.var 6) (.var 8)))
def s_law_19 : S := (.asg 14 (.ite (.cmp .gt (.slot 10) (.val (.lit (.int 1)))) (.callW "_law_bent" 16 1 (.cons (.var 14) .nil)) (.var 14)))
def s_law_20 : S := (.ife (.not (.val (.call "_law_says" 14 (.cons (.call "is_back_row" 9 (.cons (.var 3) (.cons (.var 5) (.cons (.var 14) .nil)))) (.cons (.call "_law_is_row" 20 (.cons (.var 3) (.cons (.var 5) (.cons (.var 14) .nil)))) .nil))))) (.cons (.ret (.lit (.bool false)))
    .nil) .nil)
def b_law_5 : B := (.cons s_law_18
    (.cons s_law_19
    (.cons s_law_20
    .nil)))
def s_law_21 : S := (.for (.name 10) (.rng1 (.cons (.val (.lit (.int 4))) .nil)) b_law_5)
def b_law_1 : B := (.cons s_law_1
    (.cons s_law_4
    (.cons s_law_5
    (.cons s_law_6
    (.cons s_law_7
    (.cons s_law_8
    (.cons s_law_9
    (.cons s_law_10
    (.cons s_law_11
    (.cons s_law_14
    (.cons s_law_15
    (.cons s_law_17
    (.cons s_law_21
    .nil)))))))))))))
def b_law : B := (.cons (.asgD 1 (.disp (.cons (.inr "draws") (.call "_law_draws" 11 (.cons (.var 0) (.cons (.lit (.int 300)) .nil))) (.cons (.inr "at") (.lit (.int 0)) .nil))))
    (.cons (.for (.name 2) (.rng1 (.cons (.val (.lit (.int 3))) .nil)) b_law_1)
    (.cons (.ret (.lit (.bool true)))
    .nil)))
def T : List Fd := [⟨1, 1, b_is_number⟩,
  ⟨2, 2, b_is_below⟩,
  ⟨2, 4, b_gaps_of⟩,
  ⟨2, 3, b_last_place⟩,
  ⟨3, 7, b_can_follow⟩,
  ⟨2, 3, b_could_follow⟩,
  ⟨2, 7, b_is_lost⟩,
  ⟨3, 6, b_row_from⟩,
  ⟨2, 2, b_back_row⟩,
  ⟨3, 9, b_is_back_row⟩,
  ⟨2, 3, b_least_places⟩,
  ⟨2, 8, b__law_draws⟩,
  ⟨2, 2, b__law_next⟩,
  ⟨2, 2, b__law_pick⟩,
  ⟨2, 2, b__law_says⟩,
  ⟨2, 3, b__law_same⟩,
  ⟨2, 3, b__law_bent⟩,
  ⟨1, 1, b__law_is_number⟩,
  ⟨2, 4, b__law_gaps⟩,
  ⟨2, 3, b__law_many⟩,
  ⟨3, 9, b__law_is_row⟩,
  ⟨2, 13, b__law_first⟩,
  ⟨1, 18, b_law⟩]
def C : Nat → D
  | _ => .none
def Y (n : Nat) : Sys := tabS T C n
def j_is_number : Nat := 0
def j_is_below : Nat := 1
def j_gaps_of : Nat := 2
def j_last_place : Nat := 3
def j_can_follow : Nat := 4
def j_could_follow : Nat := 5
def j_is_lost : Nat := 6
def j_row_from : Nat := 7
def j_back_row : Nat := 8
def j_is_back_row : Nat := 9
def j_least_places : Nat := 10
def j__law_draws : Nat := 11
def j__law_next : Nat := 12
def j__law_pick : Nat := 13
def j__law_says : Nat := 14
def j__law_same : Nat := 15
def j__law_bent : Nat := 16
def j__law_is_number : Nat := 17
def j__law_gaps : Nat := 18
def j__law_many : Nat := 19
def j__law_is_row : Nat := 20
def j__law_first : Nat := 21
def j_law : Nat := 22
end K31

set_option maxHeartbeats 4000000
namespace K31
open PySem L2 Pf
theorem np_is_number (n : Nat) : ((Y n).f 0).1 = 1 := tabS_np (d := ⟨1, 1, b_is_number⟩) rfl n
theorem f_is_number (n : Nat) : ((Y (n + 1)).f 0).2 = fBody 1 1 (evB (Y n) b_is_number) := rfl
theorem np_is_below (n : Nat) : ((Y n).f 1).1 = 2 := tabS_np (d := ⟨2, 2, b_is_below⟩) rfl n
theorem f_is_below (n : Nat) : ((Y (n + 1)).f 1).2 = fBody 2 2 (evB (Y n) b_is_below) := rfl
theorem np_gaps_of (n : Nat) : ((Y n).f 2).1 = 2 := tabS_np (d := ⟨2, 4, b_gaps_of⟩) rfl n
theorem f_gaps_of (n : Nat) : ((Y (n + 1)).f 2).2 = fBody 2 4 (evB (Y n) b_gaps_of) := rfl
theorem np_last_place (n : Nat) : ((Y n).f 3).1 = 2 := tabS_np (d := ⟨2, 3, b_last_place⟩) rfl n
theorem f_last_place (n : Nat) : ((Y (n + 1)).f 3).2 = fBody 2 3 (evB (Y n) b_last_place) := rfl
theorem np_can_follow (n : Nat) : ((Y n).f 4).1 = 3 := tabS_np (d := ⟨3, 7, b_can_follow⟩) rfl n
theorem f_can_follow (n : Nat) : ((Y (n + 1)).f 4).2 = fBody 3 7 (evB (Y n) b_can_follow) := rfl
theorem np_could_follow (n : Nat) : ((Y n).f 5).1 = 2 := tabS_np (d := ⟨2, 3, b_could_follow⟩) rfl n
theorem f_could_follow (n : Nat) : ((Y (n + 1)).f 5).2 = fBody 2 3 (evB (Y n) b_could_follow) := rfl
theorem np_is_lost (n : Nat) : ((Y n).f 6).1 = 2 := tabS_np (d := ⟨2, 7, b_is_lost⟩) rfl n
theorem f_is_lost (n : Nat) : ((Y (n + 1)).f 6).2 = fBody 2 7 (evB (Y n) b_is_lost) := rfl
theorem np_row_from (n : Nat) : ((Y n).f 7).1 = 3 := tabS_np (d := ⟨3, 6, b_row_from⟩) rfl n
theorem f_row_from (n : Nat) : ((Y (n + 1)).f 7).2 = fBody 3 6 (evB (Y n) b_row_from) := rfl
theorem np_back_row (n : Nat) : ((Y n).f 8).1 = 2 := tabS_np (d := ⟨2, 2, b_back_row⟩) rfl n
theorem f_back_row (n : Nat) : ((Y (n + 1)).f 8).2 = fBody 2 2 (evB (Y n) b_back_row) := rfl
theorem np_is_back_row (n : Nat) : ((Y n).f 9).1 = 3 := tabS_np (d := ⟨3, 9, b_is_back_row⟩) rfl n
theorem f_is_back_row (n : Nat) : ((Y (n + 1)).f 9).2 = fBody 3 9 (evB (Y n) b_is_back_row) := rfl
theorem np_least_places (n : Nat) : ((Y n).f 10).1 = 2 := tabS_np (d := ⟨2, 3, b_least_places⟩) rfl n
theorem f_least_places (n : Nat) : ((Y (n + 1)).f 10).2 = fBody 2 3 (evB (Y n) b_least_places) := rfl
theorem np__law_draws (n : Nat) : ((Y n).f 11).1 = 2 := tabS_np (d := ⟨2, 8, b__law_draws⟩) rfl n
theorem f__law_draws (n : Nat) : ((Y (n + 1)).f 11).2 = fBody 2 8 (evB (Y n) b__law_draws) := rfl
theorem np__law_next (n : Nat) : ((Y n).f 12).1 = 2 := tabS_np (d := ⟨2, 2, b__law_next⟩) rfl n
theorem f__law_next (n : Nat) : ((Y (n + 1)).f 12).2 = fBody 2 2 (evB (Y n) b__law_next) := rfl
theorem np__law_pick (n : Nat) : ((Y n).f 13).1 = 2 := tabS_np (d := ⟨2, 2, b__law_pick⟩) rfl n
theorem f__law_pick (n : Nat) : ((Y (n + 1)).f 13).2 = fBody 2 2 (evB (Y n) b__law_pick) := rfl
theorem np__law_says (n : Nat) : ((Y n).f 14).1 = 2 := tabS_np (d := ⟨2, 2, b__law_says⟩) rfl n
theorem f__law_says (n : Nat) : ((Y (n + 1)).f 14).2 = fBody 2 2 (evB (Y n) b__law_says) := rfl
theorem np__law_same (n : Nat) : ((Y n).f 15).1 = 2 := tabS_np (d := ⟨2, 3, b__law_same⟩) rfl n
theorem f__law_same (n : Nat) : ((Y (n + 1)).f 15).2 = fBody 2 3 (evB (Y n) b__law_same) := rfl
theorem np__law_bent (n : Nat) : ((Y n).f 16).1 = 2 := tabS_np (d := ⟨2, 3, b__law_bent⟩) rfl n
theorem f__law_bent (n : Nat) : ((Y (n + 1)).f 16).2 = fBody 2 3 (evB (Y n) b__law_bent) := rfl
theorem np__law_is_number (n : Nat) : ((Y n).f 17).1 = 1 := tabS_np (d := ⟨1, 1, b__law_is_number⟩) rfl n
theorem f__law_is_number (n : Nat) : ((Y (n + 1)).f 17).2 = fBody 1 1 (evB (Y n) b__law_is_number) := rfl
theorem np__law_gaps (n : Nat) : ((Y n).f 18).1 = 2 := tabS_np (d := ⟨2, 4, b__law_gaps⟩) rfl n
theorem f__law_gaps (n : Nat) : ((Y (n + 1)).f 18).2 = fBody 2 4 (evB (Y n) b__law_gaps) := rfl
theorem np__law_many (n : Nat) : ((Y n).f 19).1 = 2 := tabS_np (d := ⟨2, 3, b__law_many⟩) rfl n
theorem f__law_many (n : Nat) : ((Y (n + 1)).f 19).2 = fBody 2 3 (evB (Y n) b__law_many) := rfl
theorem np__law_is_row (n : Nat) : ((Y n).f 20).1 = 3 := tabS_np (d := ⟨3, 9, b__law_is_row⟩) rfl n
theorem f__law_is_row (n : Nat) : ((Y (n + 1)).f 20).2 = fBody 3 9 (evB (Y n) b__law_is_row) := rfl
theorem np__law_first (n : Nat) : ((Y n).f 21).1 = 2 := tabS_np (d := ⟨2, 13, b__law_first⟩) rfl n
theorem f__law_first (n : Nat) : ((Y (n + 1)).f 21).2 = fBody 2 13 (evB (Y n) b__law_first) := rfl
theorem np_law (n : Nat) : ((Y n).f 22).1 = 1 := tabS_np (d := ⟨1, 18, b_law⟩) rfl n
theorem f_law (n : Nat) : ((Y (n + 1)).f 22).2 = fBody 1 18 (evB (Y n) b_law) := rfl
theorem c_Y (n : Nat) : (Y n).c = C := tabS_c n

theorem next_ok (n : Nat) (ns : List Int) {k many : Int} (hk : 0 ≤ k) (hm : 0 < many) : ∃ r, 0 ≤ r ∧ r < many ∧ ((Y (n + 1)).f 12).2 [.odic true (W ns k), .dat (.int many)] = some (.int r, [.odic true (W ns (k + 1)), .dat (.int many)]) := by
  have hl : 2 < lim := by decide
  rw [f__law_next]
  by_cases h : k + 1 > (ns.length : Int)
  · refine ⟨0, by omega, hm, ?_⟩
    have h' : (ns.length : Int) < k + 1 := h
    simp [fBody, b__law_next, evB, evS, evE, evL, evO, evOs, evEs, evT, evTs, evI, evC, evP, evDd, evPs, evWs, evG, evGs, fSeq2, aft, fNext, fRet, fIf, fAsg, fAsgL, fAsgT, fAsgD, fPar, fWv, fWl, fW0, setWs, wiS, fLit, fVar, Pf.slotAt, varS, fBin, fNeg, negD, fCmp, fChain, fAnd, fOr, fNot, fBool, boolS, fTest, fIte, fAt, fAtD, fCut, fPart, fNoPart, fOs, fOs0, fFn, fVs, fVs0, fTup, fFresh, fDisp, fTupOf, fListOf, fIsi, fCall, fCallW, fVal, fSlotC, isSet, Pf.rs, Pf.rsS, Pf.rsV, rsAll, rsD, keyD, datS, datsS, setS_s, setS_dv, setS_ol, setS_dat, setS_none, setS_olst, setS_rlst, setS_fdic, setS_odic, gN, gT, gs0, gsC, lenIs, binD, addD, subD, mulD, fdivD, modD, cmpD, ordD, isD, isN, isiD, atD, fnD, intV, seqV, lstV, fApp, fAugD, fAugI, olS, odS, odH, inS, getElem_s, W_draws, W_at, W_put, W_len, hl, h', endV, outs, ownB]
  · have hlt : k.toNat < ns.length := by omega
    have ha : atI (ns.map PyData.int) (k + 1 - 1) = some (.int ns[k.toNat]) := by
      have e : k + 1 - 1 = (k.toNat : Int) := by omega
      rw [e]
      exact atI_nat (by rw [List.getElem?_map, List.getElem?_eq_getElem hlt]; rfl)
    rw [show k + 1 - 1 = k by omega] at ha
    obtain ⟨b1, b2⟩ := fm_bd (a := ns[k.toNat]) hm
    refine ⟨ns[k.toNat].fmod many, b1, b2, ?_⟩
    have h' : ¬ (ns.length : Int) < k + 1 := h
    have hm' : ¬ many = 0 := by omega
    simp [fBody, b__law_next, evB, evS, evE, evL, evO, evOs, evEs, evT, evTs, evI, evC, evP, evDd, evPs, evWs, evG, evGs, fSeq2, aft, fNext, fRet, fIf, fAsg, fAsgL, fAsgT, fAsgD, fPar, fWv, fWl, fW0, setWs, wiS, fLit, fVar, Pf.slotAt, varS, fBin, fNeg, negD, fCmp, fChain, fAnd, fOr, fNot, fBool, boolS, fTest, fIte, fAt, fAtD, fCut, fPart, fNoPart, fOs, fOs0, fFn, fVs, fVs0, fTup, fFresh, fDisp, fTupOf, fListOf, fIsi, fCall, fCallW, fVal, fSlotC, isSet, Pf.rs, Pf.rsS, Pf.rsV, rsAll, rsD, keyD, datS, datsS, setS_s, setS_dv, setS_ol, setS_dat, setS_none, setS_olst, setS_rlst, setS_fdic, setS_odic, gN, gT, gs0, gsC, lenIs, binD, addD, subD, mulD, fdivD, modD, cmpD, ordD, isD, isN, isiD, atD, fnD, intV, seqV, lstV, fApp, fAugD, fAugI, olS, odS, odH, inS, getElem_s, W_draws, W_at, W_put, W_len, hl, h', ha, hm', endV, outs, ownB]
theorem pick_ok (n : Nat) (ns : List Int) {k : Int} (hk : 0 ≤ k) {ds : List D} (hd : ds ≠ []) : ∃ d, d ∈ ds ∧ ((Y (n + 2)).f 13).2 [.odic true (W ns k), .dat (.list ds)] = some (d, [.odic true (W ns (k + 1)), .dat (.list ds)]) := by
  have hp : (0 : Int) < ds.length := by have := List.length_pos_iff.mpr hd; omega
  obtain ⟨r, r0, r1, hn⟩ := next_ok n ns hk hp
  have hlt : r.toNat < ds.length := by omega
  have ha : atI ds r = some ds[r.toNat] := by
    have e : r = (r.toNat : Int) := by omega
    conv => lhs; rw [e]
    exact atI_nat (List.getElem?_eq_getElem hlt)
  refine ⟨ds[r.toNat], List.getElem_mem hlt, ?_⟩
  rw [f__law_pick]
  simp [fBody, b__law_pick, evB, evS, evE, evL, evO, evOs, evEs, evT, evTs, evI, evC, evP, evDd, evPs, evWs, evG, evGs, fSeq2, aft, fNext, fRet, fIf, fAsg, fAsgL, fAsgT, fAsgD, fPar, fWv, fWl, fW0, setWs, wiS, fLit, fVar, Pf.slotAt, varS, fBin, fNeg, negD, fCmp, fChain, fAnd, fOr, fNot, fBool, boolS, fTest, fIte, fAt, fAtD, fCut, fPart, fNoPart, fOs, fOs0, fFn, fVs, fVs0, fTup, fFresh, fDisp, fTupOf, fListOf, fIsi, fCall, fCallW, fVal, fSlotC, isSet, Pf.rs, Pf.rsS, Pf.rsV, rsAll, rsD, keyD, datS, datsS, setS_s, setS_dv, setS_ol, setS_dat, setS_none, setS_olst, setS_rlst, setS_fdic, setS_odic, gN, gT, gs0, gsC, lenIs, binD, addD, subD, mulD, fdivD, modD, cmpD, ordD, isD, isN, isiD, atD, fnD, intV, seqV, lstV, fApp, fAugD, fAugI, olS, odS, odH, inS, getElem_s, np__law_next, hn, ha, endV, outs, ownB]
theorem draws_ok (n : Nat) (ns : List Int) (hl : ns.length ≤ 63) : ∃ rs : List Int, rs.length ≤ 300 ∧ ((Y (n + 1)).f 11).2 [.rlst (ns.map PyData.int), .dat (.int 300)] = some (.list (rs.map PyData.int), [.rlst (ns.map PyData.int), .dat (.int 300)]) := by
  have sm1 : ∀ c : Int, 0 ≤ c ∧ c < 65537 → Sm c := fun c h => sm_small (by omega)
  have s1 : Sm 48271 := sm_small (by decide)
  have s2 : Sm 69621 := sm_small (by decide)
  have s3 : Sm 16807 := sm_small (by decide)
  have s4 : Sm 997 := sm_small (by decide)
  let S : SV := .rlst (ns.map PyData.int)
  let E1 : List Int → Int → Option D → Option D → Option D → Option D → En := fun rs mixed o4 o5 o6 o7 => [some S, some (.dat (.int 300)), some (.olst (rs.map PyData.int)), some (.dat (.int mixed)), o4.map SV.dat, o5.map SV.dat, o6.map SV.dat, o7.map SV.dat]
  rw [f__law_draws]
  have hloop1 := loop_inv (bd := gN 4) (body := evB (Y n) b__law_draws_1) (P := fun i en => ∃ rs mixed o4 o5 o6 o7, en = E1 rs mixed o4 o5 o6 o7 ∧ 0 ≤ mixed ∧ mixed < 65537 ∧ rs.length ≤ 62 * i) (rngD 0 ns.length) 0 (E1 [] 7 none none none none) ⟨[], 7, none, none, none, none, rfl, by omega, by omega, by simp⟩ fun j d en hd hP => by
      obtain ⟨rs, mixed, o4, o5, o6, o7, rfl, m0, m1, hr⟩ := hP
      obtain ⟨hj, rfl⟩ := rngD_at hd
      have hA : atI (ns.map PyData.int) (0 + (j : Int)) = some (.int ns[j]) := by
        rw [Int.zero_add]
        exact atI_nat (by rw [List.getElem?_map, List.getElem?_eq_getElem hj]; rfl)
      have hA' : atI (ns.map PyData.int) (j : Int) = some (.int ns[j]) := by rw [Int.zero_add] at hA; exact hA
      let cell : Int := if ns[j] < 0 then -ns[j] else ns[j]
      let mx : Int := (mixed * 48271 + cell.fmod 1000003 + (j : Int)).fmod 65537
      obtain ⟨x0, x1⟩ := fm_bd (a := mixed * 48271 + cell.fmod 1000003 + (j : Int)) (b := 65537) (by decide)
      have sx : Sm mx := sm1 _ ⟨x0, x1⟩
      have smx := sm1 _ ⟨m0, m1⟩
      -- the inner loop
      have inner : ∀ (rs : List Int) (rest : Int) (o7 : Option D), rs.length ≤ 62 * (0 + j) + 2 → ∃ rs' o6' o7', fFor (evI (Y n) (.rng1 (.cons (.val (.lit (.int 60))) .nil))) (evG (.name 7)) (evB (Y n) b__law_draws_2) (E1 rs mx (some (.int (j : Int))) (some (.int cell)) (some (.int rest)) o7) = some (.next, E1 rs' mx (some (.int (j : Int))) (some (.int cell)) o6' o7') ∧ rs'.length ≤ 62 * (0 + j) + 2 + 60 := fun rs rest o7 hrs => by
        obtain ⟨en', h1, rs', rest', o7', rfl, h3⟩ := loop_inv (bd := gN 7) (body := evB (Y n) b__law_draws_2) (P := fun i en => ∃ rs' rest' o7', en = E1 rs' mx (some (.int (j : Int))) (some (.int cell)) (some (.int rest')) o7' ∧ rs'.length ≤ 62 * (0 + j) + 2 + i) (rngD 0 60) 0 (E1 rs mx (some (.int (j : Int))) (some (.int cell)) (some (.int rest)) o7) ⟨rs, rest, o7, rfl, hrs⟩ fun j' d en hd hP => by
            obtain ⟨rs', rest', o7', rfl, h3⟩ := hP
            obtain ⟨hj', rfl⟩ := rngD_at hd
            have hlim : rs'.length < lim := by unfold lim; omega
            by_cases hp : 0 < rest'
            · refine ⟨_, E1 (rs' ++ [rest'.fmod 997]) mx (some (.int (j : Int))) (some (.int cell)) (some (.int (rest'.fdiv 997))) (some (.int (0 + (j' : Int)))), gN_dv rfl, ?_, rs' ++ [rest'.fmod 997], _, _, rfl, by rw [List.length_append, List.length_singleton]; omega⟩
              simp [b__law_draws_2, evB, evS, evE, evL, evO, evOs, evEs, evT, evTs, evI, evC, evP, evDd, evPs, evWs, evG, evGs, fSeq2, aft, fNext, fRet, fIf, fAsg, fAsgL, fAsgT, fAsgD, fPar, fWv, fWl, fW0, setWs, wiS, fLit, fVar, Pf.slotAt, varS, fBin, fNeg, negD, fCmp, fChain, fAnd, fOr, fNot, fBool, boolS, fTest, fIte, fAt, fAtD, fCut, fPart, fNoPart, fOs, fOs0, fFn, fVs, fVs0, fTup, fFresh, fDisp, fTupOf, fListOf, fIsi, fCall, fCallW, fVal, fSlotC, isSet, Pf.rs, Pf.rsS, Pf.rsV, rsAll, rsD, keyD, datS, datsS, setS_s, setS_dv, setS_ol, setS_dat, setS_none, setS_olst, setS_rlst, setS_fdic, setS_odic, gN, gT, gs0, gsC, lenIs, binD, addD, subD, mulD, fdivD, modD, cmpD, ordD, isD, isN, isiD, atD, fnD, intV, seqV, lstV, fApp, fAugD, fAugI, olS, odS, odH, inS, getElem_s, E1, hp, hlim, s4]
            · refine ⟨_, E1 rs' mx (some (.int (j : Int))) (some (.int cell)) (some (.int rest')) (some (.int (0 + (j' : Int)))), gN_dv rfl, ?_, rs', _, _, rfl, by omega⟩
              simp [b__law_draws_2, evB, evS, evE, evL, evO, evOs, evEs, evT, evTs, evI, evC, evP, evDd, evPs, evWs, evG, evGs, fSeq2, aft, fNext, fRet, fIf, fAsg, fAsgL, fAsgT, fAsgD, fPar, fWv, fWl, fW0, setWs, wiS, fLit, fVar, Pf.slotAt, varS, fBin, fNeg, negD, fCmp, fChain, fAnd, fOr, fNot, fBool, boolS, fTest, fIte, fAt, fAtD, fCut, fPart, fNoPart, fOs, fOs0, fFn, fVs, fVs0, fTup, fFresh, fDisp, fTupOf, fListOf, fIsi, fCall, fCallW, fVal, fSlotC, isSet, Pf.rs, Pf.rsS, Pf.rsV, rsAll, rsD, keyD, datS, datsS, setS_s, setS_dv, setS_ol, setS_dat, setS_none, setS_olst, setS_rlst, setS_fdic, setS_odic, gN, gT, gs0, gsC, lenIs, binD, addD, subD, mulD, fdivD, modD, cmpD, ordD, isD, isN, isiD, atD, fnD, intV, seqV, lstV, fApp, fAugD, fAugI, olS, odS, odH, inS, getElem_s, E1, hp]
        refine ⟨rs', some (.int rest'), o7', ?_, by rw [rngD_len] at h3; omega⟩
        rw [evI, evG]
        unfold fFor
        simp [evB, evS, evE, evL, evO, evOs, evEs, evT, evTs, evI, evC, evP, evDd, evPs, evWs, evG, evGs, fSeq2, aft, fNext, fRet, fIf, fAsg, fAsgL, fAsgT, fAsgD, fPar, fWv, fWl, fW0, setWs, wiS, fLit, fVar, Pf.slotAt, varS, fBin, fNeg, negD, fCmp, fChain, fAnd, fOr, fNot, fBool, boolS, fTest, fIte, fAt, fAtD, fCut, fPart, fNoPart, fOs, fOs0, fFn, fVs, fVs0, fTup, fFresh, fDisp, fTupOf, fListOf, fIsi, fCall, fCallW, fVal, fSlotC, isSet, Pf.rs, Pf.rsS, Pf.rsV, rsAll, rsD, keyD, datS, datsS, setS_s, setS_dv, setS_ol, setS_dat, setS_none, setS_olst, setS_rlst, setS_fdic, setS_odic, gN, gT, gs0, gsC, lenIs, binD, addD, subD, mulD, fdivD, modD, cmpD, ordD, isD, isN, isiD, atD, fnD, intV, seqV, lstV, fApp, fAugD, fAugI, olS, odS, odH, inS, getElem_s, fRng1, int1]
        exact h1
      have hlim0 : rs.length < lim := by unfold lim; omega
      have hlim1 : rs.length + 1 < lim := by unfold lim; omega
      by_cases hbig : (1000000000000000000 : Int) ≤ cell
      · have hb2 : ¬ cell < 1000000000000000000 := by omega
        obtain ⟨rs', o6', o7', h1, h2⟩ := inner rs cell o7 (by omega)
        refine ⟨_, _, gN_dv rfl, ?_, rs', mx, some (.int (j : Int)), some (.int cell), o6', o7', rfl, x0, x1, by omega⟩
        refine B_next (en1 := E1 rs mixed (some (.int (j : Int))) (some (.int cell)) o6 o7) (by simp [evB, evS, evE, evL, evO, evOs, evEs, evT, evTs, evI, evC, evP, evDd, evPs, evWs, evG, evGs, fSeq2, aft, fNext, fRet, fIf, fAsg, fAsgL, fAsgT, fAsgD, fPar, fWv, fWl, fW0, setWs, wiS, fLit, fVar, Pf.slotAt, varS, fBin, fNeg, negD, fCmp, fChain, fAnd, fOr, fNot, fBool, boolS, fTest, fIte, fAt, fAtD, fCut, fPart, fNoPart, fOs, fOs0, fFn, fVs, fVs0, fTup, fFresh, fDisp, fTupOf, fListOf, fIsi, fCall, fCallW, fVal, fSlotC, isSet, Pf.rs, Pf.rsS, Pf.rsV, rsAll, rsD, keyD, datS, datsS, setS_s, setS_dv, setS_ol, setS_dat, setS_none, setS_olst, setS_rlst, setS_fdic, setS_odic, gN, gT, gs0, gsC, lenIs, binD, addD, subD, mulD, fdivD, modD, cmpD, ordD, isD, isN, isiD, atD, fnD, intV, seqV, lstV, fApp, fAugD, fAugI, olS, odS, odH, inS, getElem_s, E1, fAtR, rlS, hA', cell, S]) ?_
        refine B_next (en1 := E1 rs mx (some (.int (j : Int))) (some (.int cell)) o6 o7) (by simp [evB, evS, evE, evL, evO, evOs, evEs, evT, evTs, evI, evC, evP, evDd, evPs, evWs, evG, evGs, fSeq2, aft, fNext, fRet, fIf, fAsg, fAsgL, fAsgT, fAsgD, fPar, fWv, fWl, fW0, setWs, wiS, fLit, fVar, Pf.slotAt, varS, fBin, fNeg, negD, fCmp, fChain, fAnd, fOr, fNot, fBool, boolS, fTest, fIte, fAt, fAtD, fCut, fPart, fNoPart, fOs, fOs0, fFn, fVs, fVs0, fTup, fFresh, fDisp, fTupOf, fListOf, fIsi, fCall, fCallW, fVal, fSlotC, isSet, Pf.rs, Pf.rsS, Pf.rsV, rsAll, rsD, keyD, datS, datsS, setS_s, setS_dv, setS_ol, setS_dat, setS_none, setS_olst, setS_rlst, setS_fdic, setS_odic, gN, gT, gs0, gsC, lenIs, binD, addD, subD, mulD, fdivD, modD, cmpD, ordD, isD, isN, isiD, atD, fnD, intV, seqV, lstV, fApp, fAugD, fAugI, olS, odS, odH, inS, getElem_s, E1, smx, s1, mx]) ?_
        refine B_next (en1 := E1 rs mx (some (.int (j : Int))) (some (.int cell)) (some (.int 0)) o7) (by simp [evB, evS, evE, evL, evO, evOs, evEs, evT, evTs, evI, evC, evP, evDd, evPs, evWs, evG, evGs, fSeq2, aft, fNext, fRet, fIf, fAsg, fAsgL, fAsgT, fAsgD, fPar, fWv, fWl, fW0, setWs, wiS, fLit, fVar, Pf.slotAt, varS, fBin, fNeg, negD, fCmp, fChain, fAnd, fOr, fNot, fBool, boolS, fTest, fIte, fAt, fAtD, fCut, fPart, fNoPart, fOs, fOs0, fFn, fVs, fVs0, fTup, fFresh, fDisp, fTupOf, fListOf, fIsi, fCall, fCallW, fVal, fSlotC, isSet, Pf.rs, Pf.rsS, Pf.rsV, rsAll, rsD, keyD, datS, datsS, setS_s, setS_dv, setS_ol, setS_dat, setS_none, setS_olst, setS_rlst, setS_fdic, setS_odic, gN, gT, gs0, gsC, lenIs, binD, addD, subD, mulD, fdivD, modD, cmpD, ordD, isD, isN, isiD, atD, fnD, intV, seqV, lstV, fApp, fAugD, fAugI, olS, odS, odH, inS, getElem_s, E1]) ?_
        refine B_next (en1 := E1 rs mx (some (.int (j : Int))) (some (.int cell)) (some (.int cell)) o7) (by simp [evB, evS, evE, evL, evO, evOs, evEs, evT, evTs, evI, evC, evP, evDd, evPs, evWs, evG, evGs, fSeq2, aft, fNext, fRet, fIf, fAsg, fAsgL, fAsgT, fAsgD, fPar, fWv, fWl, fW0, setWs, wiS, fLit, fVar, Pf.slotAt, varS, fBin, fNeg, negD, fCmp, fChain, fAnd, fOr, fNot, fBool, boolS, fTest, fIte, fAt, fAtD, fCut, fPart, fNoPart, fOs, fOs0, fFn, fVs, fVs0, fTup, fFresh, fDisp, fTupOf, fListOf, fIsi, fCall, fCallW, fVal, fSlotC, isSet, Pf.rs, Pf.rsS, Pf.rsV, rsAll, rsD, keyD, datS, datsS, setS_s, setS_dv, setS_ol, setS_dat, setS_none, setS_olst, setS_rlst, setS_fdic, setS_odic, gN, gT, gs0, gsC, lenIs, binD, addD, subD, mulD, fdivD, modD, cmpD, ordD, isD, isN, isiD, atD, fnD, intV, seqV, lstV, fApp, fAugD, fAugI, olS, odS, odH, inS, getElem_s, E1, powD, hbig, hb2]) ?_
        refine B_next (by rw [evS]; exact h1) ?_
        rw [evB]; rfl
      · have hb2 : cell < 1000000000000000000 := by omega
        obtain ⟨rs', o6', o7', h1, h2⟩ := inner (rs ++ [cell.fmod 997, ((mx * 69621 + 5).fmod 65521).fmod 997]) 0 o7 (by simp; omega)
        refine ⟨_, _, gN_dv rfl, ?_, rs', mx, some (.int (j : Int)), some (.int cell), o6', o7', rfl, x0, x1, by omega⟩
        refine B_next (en1 := E1 rs mixed (some (.int (j : Int))) (some (.int cell)) o6 o7) (by simp [evB, evS, evE, evL, evO, evOs, evEs, evT, evTs, evI, evC, evP, evDd, evPs, evWs, evG, evGs, fSeq2, aft, fNext, fRet, fIf, fAsg, fAsgL, fAsgT, fAsgD, fPar, fWv, fWl, fW0, setWs, wiS, fLit, fVar, Pf.slotAt, varS, fBin, fNeg, negD, fCmp, fChain, fAnd, fOr, fNot, fBool, boolS, fTest, fIte, fAt, fAtD, fCut, fPart, fNoPart, fOs, fOs0, fFn, fVs, fVs0, fTup, fFresh, fDisp, fTupOf, fListOf, fIsi, fCall, fCallW, fVal, fSlotC, isSet, Pf.rs, Pf.rsS, Pf.rsV, rsAll, rsD, keyD, datS, datsS, setS_s, setS_dv, setS_ol, setS_dat, setS_none, setS_olst, setS_rlst, setS_fdic, setS_odic, gN, gT, gs0, gsC, lenIs, binD, addD, subD, mulD, fdivD, modD, cmpD, ordD, isD, isN, isiD, atD, fnD, intV, seqV, lstV, fApp, fAugD, fAugI, olS, odS, odH, inS, getElem_s, E1, fAtR, rlS, hA', cell, S]) ?_
        refine B_next (en1 := E1 rs mx (some (.int (j : Int))) (some (.int cell)) o6 o7) (by simp [evB, evS, evE, evL, evO, evOs, evEs, evT, evTs, evI, evC, evP, evDd, evPs, evWs, evG, evGs, fSeq2, aft, fNext, fRet, fIf, fAsg, fAsgL, fAsgT, fAsgD, fPar, fWv, fWl, fW0, setWs, wiS, fLit, fVar, Pf.slotAt, varS, fBin, fNeg, negD, fCmp, fChain, fAnd, fOr, fNot, fBool, boolS, fTest, fIte, fAt, fAtD, fCut, fPart, fNoPart, fOs, fOs0, fFn, fVs, fVs0, fTup, fFresh, fDisp, fTupOf, fListOf, fIsi, fCall, fCallW, fVal, fSlotC, isSet, Pf.rs, Pf.rsS, Pf.rsV, rsAll, rsD, keyD, datS, datsS, setS_s, setS_dv, setS_ol, setS_dat, setS_none, setS_olst, setS_rlst, setS_fdic, setS_odic, gN, gT, gs0, gsC, lenIs, binD, addD, subD, mulD, fdivD, modD, cmpD, ordD, isD, isN, isiD, atD, fnD, intV, seqV, lstV, fApp, fAugD, fAugI, olS, odS, odH, inS, getElem_s, E1, smx, s1, mx]) ?_
        refine B_next (en1 := E1 rs mx (some (.int (j : Int))) (some (.int cell)) (some (.int 0)) o7) (by simp [evB, evS, evE, evL, evO, evOs, evEs, evT, evTs, evI, evC, evP, evDd, evPs, evWs, evG, evGs, fSeq2, aft, fNext, fRet, fIf, fAsg, fAsgL, fAsgT, fAsgD, fPar, fWv, fWl, fW0, setWs, wiS, fLit, fVar, Pf.slotAt, varS, fBin, fNeg, negD, fCmp, fChain, fAnd, fOr, fNot, fBool, boolS, fTest, fIte, fAt, fAtD, fCut, fPart, fNoPart, fOs, fOs0, fFn, fVs, fVs0, fTup, fFresh, fDisp, fTupOf, fListOf, fIsi, fCall, fCallW, fVal, fSlotC, isSet, Pf.rs, Pf.rsS, Pf.rsV, rsAll, rsD, keyD, datS, datsS, setS_s, setS_dv, setS_ol, setS_dat, setS_none, setS_olst, setS_rlst, setS_fdic, setS_odic, gN, gT, gs0, gsC, lenIs, binD, addD, subD, mulD, fdivD, modD, cmpD, ordD, isD, isN, isiD, atD, fnD, intV, seqV, lstV, fApp, fAugD, fAugI, olS, odS, odH, inS, getElem_s, E1]) ?_
        refine B_next (en1 := E1 (rs ++ [cell.fmod 997, ((mx * 69621 + 5).fmod 65521).fmod 997]) mx (some (.int (j : Int))) (some (.int cell)) (some (.int 0)) o7) (by simp [evB, evS, evE, evL, evO, evOs, evEs, evT, evTs, evI, evC, evP, evDd, evPs, evWs, evG, evGs, fSeq2, aft, fNext, fRet, fIf, fAsg, fAsgL, fAsgT, fAsgD, fPar, fWv, fWl, fW0, setWs, wiS, fLit, fVar, Pf.slotAt, varS, fBin, fNeg, negD, fCmp, fChain, fAnd, fOr, fNot, fBool, boolS, fTest, fIte, fAt, fAtD, fCut, fPart, fNoPart, fOs, fOs0, fFn, fVs, fVs0, fTup, fFresh, fDisp, fTupOf, fListOf, fIsi, fCall, fCallW, fVal, fSlotC, isSet, Pf.rs, Pf.rsS, Pf.rsV, rsAll, rsD, keyD, datS, datsS, setS_s, setS_dv, setS_ol, setS_dat, setS_none, setS_olst, setS_rlst, setS_fdic, setS_odic, gN, gT, gs0, gsC, lenIs, binD, addD, subD, mulD, fdivD, modD, cmpD, ordD, isD, isN, isiD, atD, fnD, intV, seqV, lstV, fApp, fAugD, fAugI, olS, odS, odH, inS, getElem_s, E1, powD, hbig, hb2, hlim0, hlim1, sx, s2]) ?_
        refine B_next (by rw [evS]; exact h1) ?_
        rw [evB]; rfl
  obtain ⟨en1, h1, rs1, mixed1, o4, o5, o6, o7, rfl, m0, m1, hr1⟩ := hloop1
  rw [rngD_len] at hr1
  have hloop2 := loop_inv (bd := gN 4) (body := evB (Y n) b__law_draws_3) (P := fun i en => ∃ rs mixed o4, en = E1 rs mixed o4 o5 o6 o7 ∧ 0 ≤ mixed ∧ mixed < 65537 ∧ rs.length ≤ 62 * ns.length + i) (rngD 0 300) 0 (E1 rs1 mixed1 o4 o5 o6 o7) ⟨rs1, mixed1, o4, rfl, m0, m1, by omega⟩ fun j d en hd hP => by
      obtain ⟨rs, mixed, o4, rfl, m0, m1, hr⟩ := hP
      obtain ⟨hj, rfl⟩ := rngD_at hd
      have smx := sm1 _ ⟨m0, m1⟩
      obtain ⟨x0, x1⟩ := fm_bd (a := mixed * 16807 + (j : Int) + 1) (b := 65537) (by decide)
      have hlim0 : rs.length < lim := by unfold lim; omega
      refine ⟨_, E1 (rs ++ [((mixed * 16807 + (j : Int) + 1).fmod 65537).fmod 997]) ((mixed * 16807 + (j : Int) + 1).fmod 65537) (some (.int (0 + (j : Int)))) o5 o6 o7, gN_dv rfl, ?_, _, _, _, rfl, x0, x1, by rw [List.length_append, List.length_singleton]; omega⟩
      simp [b__law_draws_3, evB, evS, evE, evL, evO, evOs, evEs, evT, evTs, evI, evC, evP, evDd, evPs, evWs, evG, evGs, fSeq2, aft, fNext, fRet, fIf, fAsg, fAsgL, fAsgT, fAsgD, fPar, fWv, fWl, fW0, setWs, wiS, fLit, fVar, Pf.slotAt, varS, fBin, fNeg, negD, fCmp, fChain, fAnd, fOr, fNot, fBool, boolS, fTest, fIte, fAt, fAtD, fCut, fPart, fNoPart, fOs, fOs0, fFn, fVs, fVs0, fTup, fFresh, fDisp, fTupOf, fListOf, fIsi, fCall, fCallW, fVal, fSlotC, isSet, Pf.rs, Pf.rsS, Pf.rsV, rsAll, rsD, keyD, datS, datsS, setS_s, setS_dv, setS_ol, setS_dat, setS_none, setS_olst, setS_rlst, setS_fdic, setS_odic, gN, gT, gs0, gsC, lenIs, binD, addD, subD, mulD, fdivD, modD, cmpD, ordD, isD, isN, isiD, atD, fnD, intV, seqV, lstV, fApp, fAugD, fAugI, olS, odS, odH, inS, getElem_s, E1, smx, s3, hlim0]
  obtain ⟨en2, h2, rs2, mixed2, o4', rfl, _, _, hr2⟩ := hloop2
  refine ⟨rs2.take 300, by rw [List.length_take]; omega, ?_⟩
  refine fb_ret (en' := E1 rs2 mixed2 o4' o5 o6 o7) rfl ?_ rfl
  refine B_next (en1 := [some S, some (.dat (.int 300)), some (.olst []), none, none, none, none, none]) (by simp [evB, evS, evE, evL, evO, evOs, evEs, evT, evTs, evI, evC, evP, evDd, evPs, evWs, evG, evGs, fSeq2, aft, fNext, fRet, fIf, fAsg, fAsgL, fAsgT, fAsgD, fPar, fWv, fWl, fW0, setWs, wiS, fLit, fVar, Pf.slotAt, varS, fBin, fNeg, negD, fCmp, fChain, fAnd, fOr, fNot, fBool, boolS, fTest, fIte, fAt, fAtD, fCut, fPart, fNoPart, fOs, fOs0, fFn, fVs, fVs0, fTup, fFresh, fDisp, fTupOf, fListOf, fIsi, fCall, fCallW, fVal, fSlotC, isSet, Pf.rs, Pf.rsS, Pf.rsV, rsAll, rsD, keyD, datS, datsS, setS_s, setS_dv, setS_ol, setS_dat, setS_none, setS_olst, setS_rlst, setS_fdic, setS_odic, gN, gT, gs0, gsC, lenIs, binD, addD, subD, mulD, fdivD, modD, cmpD, ordD, isD, isN, isiD, atD, fnD, intV, seqV, lstV, fApp, fAugD, fAugI, olS, odS, odH, inS, getElem_s, List.replicate, S, lim]) ?_
  refine B_next (en1 := E1 [] 7 none none none none) (by simp [evB, evS, evE, evL, evO, evOs, evEs, evT, evTs, evI, evC, evP, evDd, evPs, evWs, evG, evGs, fSeq2, aft, fNext, fRet, fIf, fAsg, fAsgL, fAsgT, fAsgD, fPar, fWv, fWl, fW0, setWs, wiS, fLit, fVar, Pf.slotAt, varS, fBin, fNeg, negD, fCmp, fChain, fAnd, fOr, fNot, fBool, boolS, fTest, fIte, fAt, fAtD, fCut, fPart, fNoPart, fOs, fOs0, fFn, fVs, fVs0, fTup, fFresh, fDisp, fTupOf, fListOf, fIsi, fCall, fCallW, fVal, fSlotC, isSet, Pf.rs, Pf.rsS, Pf.rsV, rsAll, rsD, keyD, datS, datsS, setS_s, setS_dv, setS_ol, setS_dat, setS_none, setS_olst, setS_rlst, setS_fdic, setS_odic, gN, gT, gs0, gsC, lenIs, binD, addD, subD, mulD, fdivD, modD, cmpD, ordD, isD, isN, isiD, atD, fnD, intV, seqV, lstV, fApp, fAugD, fAugI, olS, odS, odH, inS, getElem_s, E1]) ?_
  refine B_next (en1 := E1 rs1 mixed1 o4 o5 o6 o7) ?_ ?_
  · rw [evS, evI, evG]
    unfold fFor
    have hr : -1000000 ≤ (ns.length : Int) ∧ (ns.length : Int) ≤ 1000000 := by omega
    simp [evB, evS, evE, evL, evO, evOs, evEs, evT, evTs, evI, evC, evP, evDd, evPs, evWs, evG, evGs, fSeq2, aft, fNext, fRet, fIf, fAsg, fAsgL, fAsgT, fAsgD, fPar, fWv, fWl, fW0, setWs, wiS, fLit, fVar, Pf.slotAt, varS, fBin, fNeg, negD, fCmp, fChain, fAnd, fOr, fNot, fBool, boolS, fTest, fIte, fAt, fAtD, fCut, fPart, fNoPart, fOs, fOs0, fFn, fVs, fVs0, fTup, fFresh, fDisp, fTupOf, fListOf, fIsi, fCall, fCallW, fVal, fSlotC, isSet, Pf.rs, Pf.rsS, Pf.rsV, rsAll, rsD, keyD, datS, datsS, setS_s, setS_dv, setS_ol, setS_dat, setS_none, setS_olst, setS_rlst, setS_fdic, setS_odic, gN, gT, gs0, gsC, lenIs, binD, addD, subD, mulD, fdivD, modD, cmpD, ordD, isD, isN, isiD, atD, fnD, intV, seqV, lstV, fApp, fAugD, fAugI, olS, odS, odH, inS, getElem_s, fRng1, int1, fLenR, rlS, E1, S, hr]
    exact h1
  refine B_next (en1 := E1 rs2 mixed2 o4' o5 o6 o7) ?_ (B_ret ?_)
  · rw [evS, evI, evG]
    unfold fFor
    simp [evB, evS, evE, evL, evO, evOs, evEs, evT, evTs, evI, evC, evP, evDd, evPs, evWs, evG, evGs, fSeq2, aft, fNext, fRet, fIf, fAsg, fAsgL, fAsgT, fAsgD, fPar, fWv, fWl, fW0, setWs, wiS, fLit, fVar, Pf.slotAt, varS, fBin, fNeg, negD, fCmp, fChain, fAnd, fOr, fNot, fBool, boolS, fTest, fIte, fAt, fAtD, fCut, fPart, fNoPart, fOs, fOs0, fFn, fVs, fVs0, fTup, fFresh, fDisp, fTupOf, fListOf, fIsi, fCall, fCallW, fVal, fSlotC, isSet, Pf.rs, Pf.rsS, Pf.rsV, rsAll, rsD, keyD, datS, datsS, setS_s, setS_dv, setS_ol, setS_dat, setS_none, setS_olst, setS_rlst, setS_fdic, setS_odic, gN, gT, gs0, gsC, lenIs, binD, addD, subD, mulD, fdivD, modD, cmpD, ordD, isD, isN, isiD, atD, fnD, intV, seqV, lstV, fApp, fAugD, fAugI, olS, odS, odH, inS, getElem_s, fRng1, int1, E1]
    exact h2
  · have hc : cutL (rs2.map PyData.int) none (some 300) = (rs2.map PyData.int).take 300 := cut_take _ 300
    simp [evB, evS, evE, evL, evO, evOs, evEs, evT, evTs, evI, evC, evP, evDd, evPs, evWs, evG, evGs, fSeq2, aft, fNext, fRet, fIf, fAsg, fAsgL, fAsgT, fAsgD, fPar, fWv, fWl, fW0, setWs, wiS, fLit, fVar, Pf.slotAt, varS, fBin, fNeg, negD, fCmp, fChain, fAnd, fOr, fNot, fBool, boolS, fTest, fIte, fAt, fAtD, fCut, fPart, fNoPart, fOs, fOs0, fFn, fVs, fVs0, fTup, fFresh, fDisp, fTupOf, fListOf, fIsi, fCall, fCallW, fVal, fSlotC, isSet, Pf.rs, Pf.rsS, Pf.rsV, rsAll, rsD, keyD, datS, datsS, setS_s, setS_dv, setS_ol, setS_dat, setS_none, setS_olst, setS_rlst, setS_fdic, setS_odic, gN, gT, gs0, gsC, lenIs, binD, addD, subD, mulD, fdivD, modD, cmpD, ordD, isD, isN, isiD, atD, fnD, intV, seqV, lstV, fApp, fAugD, fAugI, olS, odS, odH, inS, getElem_s, E1, cutD, hc]

theorem same_ok : ∀ (m n : Nat) (d : D), sg m d → ((Y (n + m + 1)).f 15).2 [.dat d, .dat d] = some (.bool true, [.dat d, .dat d])
  | m, n, .none, _ => by rw [f__law_same]; simp [fBody, b__law_same, evB, evS, evE, evL, evO, evOs, evEs, evT, evTs, evI, evC, evP, evDd, evPs, evWs, evG, evGs, fSeq2, aft, fNext, fRet, fIf, fAsg, fAsgL, fAsgT, fAsgD, fPar, fWv, fWl, fW0, setWs, wiS, fLit, fVar, Pf.slotAt, varS, fBin, fNeg, negD, fCmp, fChain, fAnd, fOr, fNot, fBool, boolS, fTest, fIte, fAt, fAtD, fCut, fPart, fNoPart, fOs, fOs0, fFn, fVs, fVs0, fTup, fFresh, fDisp, fTupOf, fListOf, fIsi, fCall, fCallW, fVal, fSlotC, isSet, Pf.rs, Pf.rsS, Pf.rsV, rsAll, rsD, keyD, datS, datsS, setS_s, setS_dv, setS_ol, setS_dat, setS_none, setS_olst, setS_rlst, setS_fdic, setS_odic, gN, gT, gs0, gsC, lenIs, binD, addD, subD, mulD, fdivD, modD, cmpD, ordD, isD, isN, isiD, atD, fnD, intV, seqV, lstV, fApp, fAugD, fAugI, olS, odS, odH, inS, getElem_s, endV, outs, ownB]
  | m, n, .bool b, _ => by rw [f__law_same]; simp [fBody, b__law_same, evB, evS, evE, evL, evO, evOs, evEs, evT, evTs, evI, evC, evP, evDd, evPs, evWs, evG, evGs, fSeq2, aft, fNext, fRet, fIf, fAsg, fAsgL, fAsgT, fAsgD, fPar, fWv, fWl, fW0, setWs, wiS, fLit, fVar, Pf.slotAt, varS, fBin, fNeg, negD, fCmp, fChain, fAnd, fOr, fNot, fBool, boolS, fTest, fIte, fAt, fAtD, fCut, fPart, fNoPart, fOs, fOs0, fFn, fVs, fVs0, fTup, fFresh, fDisp, fTupOf, fListOf, fIsi, fCall, fCallW, fVal, fSlotC, isSet, Pf.rs, Pf.rsS, Pf.rsV, rsAll, rsD, keyD, datS, datsS, setS_s, setS_dv, setS_ol, setS_dat, setS_none, setS_olst, setS_rlst, setS_fdic, setS_odic, gN, gT, gs0, gsC, lenIs, binD, addD, subD, mulD, fdivD, modD, cmpD, ordD, isD, isN, isiD, atD, fnD, intV, seqV, lstV, fApp, fAugD, fAugI, olS, odS, odH, inS, getElem_s, eqD_bool, endV, outs, ownB]
  | m, n, .int i, _ => by rw [f__law_same]; simp [fBody, b__law_same, evB, evS, evE, evL, evO, evOs, evEs, evT, evTs, evI, evC, evP, evDd, evPs, evWs, evG, evGs, fSeq2, aft, fNext, fRet, fIf, fAsg, fAsgL, fAsgT, fAsgD, fPar, fWv, fWl, fW0, setWs, wiS, fLit, fVar, Pf.slotAt, varS, fBin, fNeg, negD, fCmp, fChain, fAnd, fOr, fNot, fBool, boolS, fTest, fIte, fAt, fAtD, fCut, fPart, fNoPart, fOs, fOs0, fFn, fVs, fVs0, fTup, fFresh, fDisp, fTupOf, fListOf, fIsi, fCall, fCallW, fVal, fSlotC, isSet, Pf.rs, Pf.rsS, Pf.rsV, rsAll, rsD, keyD, datS, datsS, setS_s, setS_dv, setS_ol, setS_dat, setS_none, setS_olst, setS_rlst, setS_fdic, setS_odic, gN, gT, gs0, gsC, lenIs, binD, addD, subD, mulD, fdivD, modD, cmpD, ordD, isD, isN, isiD, atD, fnD, intV, seqV, lstV, fApp, fAugD, fAugI, olS, odS, odH, inS, getElem_s, eqD_bool, eqD_int, endV, outs, ownB]
  | m, n, .list _, h => by cases m <;> exact h.elim
  | m, n, .dict _, h => by cases m <;> exact h.elim
  | m, n, .str x, h => by
    have h' : shp (.str x) = true := by cases m <;> exact h
    rw [f__law_same]; simp [fBody, b__law_same, evB, evS, evE, evL, evO, evOs, evEs, evT, evTs, evI, evC, evP, evDd, evPs, evWs, evG, evGs, fSeq2, aft, fNext, fRet, fIf, fAsg, fAsgL, fAsgT, fAsgD, fPar, fWv, fWl, fW0, setWs, wiS, fLit, fVar, Pf.slotAt, varS, fBin, fNeg, negD, fCmp, fChain, fAnd, fOr, fNot, fBool, boolS, fTest, fIte, fAt, fAtD, fCut, fPart, fNoPart, fOs, fOs0, fFn, fVs, fVs0, fTup, fFresh, fDisp, fTupOf, fListOf, fIsi, fCall, fCallW, fVal, fSlotC, isSet, Pf.rs, Pf.rsS, Pf.rsV, rsAll, rsD, keyD, datS, datsS, setS_s, setS_dv, setS_ol, setS_dat, setS_none, setS_olst, setS_rlst, setS_fdic, setS_odic, gN, gT, gs0, gsC, lenIs, binD, addD, subD, mulD, fdivD, modD, cmpD, ordD, isD, isN, isiD, atD, fnD, intV, seqV, lstV, fApp, fAugD, fAugI, olS, odS, odH, inS, getElem_s, eqD_self_str h', endV, outs, ownB]
  | m + 1, n, .tuple ds, h => by
    obtain ⟨h1, h2⟩ := h
    have hb : (-1000000 : Int) ≤ (ds.length : Int) ∧ (ds.length : Int) ≤ 1000000 := by unfold lim at h1; omega
    have hl : (rngD 0 ds.length).length ≤ lim := by rw [rngD_len]; exact h1
    have hcomp := comp_map (vs := [2]) (bd := evG (.name 2)) (cond := evC (Y (n + m + 1)) c__law_same_1c)
      (elt := evE (Y (n + m + 1)) c__law_same_1e) (f := fun i : Nat => PyData.int (i : Int)) (g := fun i : Nat => PyData.int (i : Int)) (p := fun _ => false) (en := [some (.dat (.tuple ds)), some (.dat (.tuple ds)), none]) (List.range ds.length) fun x hx => by
        have hlt : x < ds.length := List.mem_range.mp hx
        have ha : atI ds (x : Int) = some ds[x] := atI_nat (List.getElem?_eq_getElem hlt)
        have ih := same_ok m n ds[x] (h2 _ (List.getElem_mem hlt))
        refine ⟨[some (.dat (.tuple ds)), some (.dat (.tuple ds)), some (.dat (.int x))], [some (.dat (.tuple ds)), some (.dat (.tuple ds)), some (.dat (.int x))], rfl, ?_, ?_⟩
        · simp [c__law_same_1c, evB, evS, evE, evL, evO, evOs, evEs, evT, evTs, evI, evC, evP, evDd, evPs, evWs, evG, evGs, fSeq2, aft, fNext, fRet, fIf, fAsg, fAsgL, fAsgT, fAsgD, fPar, fWv, fWl, fW0, setWs, wiS, fLit, fVar, Pf.slotAt, varS, fBin, fNeg, negD, fCmp, fChain, fAnd, fOr, fNot, fBool, boolS, fTest, fIte, fAt, fAtD, fCut, fPart, fNoPart, fOs, fOs0, fFn, fVs, fVs0, fTup, fFresh, fDisp, fTupOf, fListOf, fIsi, fCall, fCallW, fVal, fSlotC, isSet, Pf.rs, Pf.rsS, Pf.rsV, rsAll, rsD, keyD, datS, datsS, setS_s, setS_dv, setS_ol, setS_dat, setS_none, setS_olst, setS_rlst, setS_fdic, setS_odic, gN, gT, gs0, gsC, lenIs, binD, addD, subD, mulD, fdivD, modD, cmpD, ordD, isD, isN, isiD, atD, fnD, intV, seqV, lstV, fApp, fAugD, fAugI, olS, odS, odH, inS, getElem_s, np__law_same, ha, ih]
        · simp [wipeE]
    rw [← rngD_map] at hcomp
    have hcomp' : evL (Y (n + m + 1)) c__law_same_1 [some (.dat (.tuple ds)), some (.dat (.tuple ds)), none] = some ([], [some (.dat (.tuple ds)), some (.dat (.tuple ds)), none]) := by
      unfold c__law_same_1
      refine (comp_ev (ds := rngD 0 ds.length) (en1 := [some (.dat (.tuple ds)), some (.dat (.tuple ds)), none]) (en2 := [some (.dat (.tuple ds)), some (.dat (.tuple ds)), none]) (r := []) ?_ hl ?_).trans rfl
      · simp [c__law_same_1i, evB, evS, evE, evL, evO, evOs, evEs, evT, evTs, evI, evC, evP, evDd, evPs, evWs, evG, evGs, fSeq2, aft, fNext, fRet, fIf, fAsg, fAsgL, fAsgT, fAsgD, fPar, fWv, fWl, fW0, setWs, wiS, fLit, fVar, Pf.slotAt, varS, fBin, fNeg, negD, fCmp, fChain, fAnd, fOr, fNot, fBool, boolS, fTest, fIte, fAt, fAtD, fCut, fPart, fNoPart, fOs, fOs0, fFn, fVs, fVs0, fTup, fFresh, fDisp, fTupOf, fListOf, fIsi, fCall, fCallW, fVal, fSlotC, isSet, Pf.rs, Pf.rsS, Pf.rsV, rsAll, rsD, keyD, datS, datsS, setS_s, setS_dv, setS_ol, setS_dat, setS_none, setS_olst, setS_rlst, setS_fdic, setS_odic, gN, gT, gs0, gsC, lenIs, binD, addD, subD, mulD, fdivD, modD, cmpD, ordD, isD, isN, isiD, atD, fnD, intV, seqV, lstV, fApp, fAugD, fAugI, olS, odS, odH, inS, getElem_s, fRng1, int1, hb]
      · refine hcomp.trans ?_
        simp
    rw [show n + (m + 1) + 1 = (n + m + 1) + 1 by omega, f__law_same]
    refine fb_ret (en' := [some (.dat (.tuple ds)), some (.dat (.tuple ds)), none]) rfl ?_ rfl
    unfold b__law_same
    refine B_ret ?_
    simp [evB, evS, evE, evL, evO, evOs, evEs, evT, evTs, evI, evC, evP, evDd, evPs, evWs, evG, evGs, fSeq2, aft, fNext, fRet, fIf, fAsg, fAsgL, fAsgT, fAsgD, fPar, fWv, fWl, fW0, setWs, wiS, fLit, fVar, Pf.slotAt, varS, fBin, fNeg, negD, fCmp, fChain, fAnd, fOr, fNot, fBool, boolS, fTest, fIte, fAt, fAtD, fCut, fPart, fNoPart, fOs, fOs0, fFn, fVs, fVs0, fTup, fFresh, fDisp, fTupOf, fListOf, fIsi, fCall, fCallW, fVal, fSlotC, isSet, Pf.rs, Pf.rsS, Pf.rsV, rsAll, rsD, keyD, datS, datsS, setS_s, setS_dv, setS_ol, setS_dat, setS_none, setS_olst, setS_rlst, setS_fdic, setS_odic, gN, gT, gs0, gsC, lenIs, binD, addD, subD, mulD, fdivD, modD, cmpD, ordD, isD, isN, isiD, atD, fnD, intV, seqV, lstV, fApp, fAugD, fAugI, olS, odS, odH, inS, getElem_s, hcomp', eqD_nil, eqD_int, lim]
theorem same_lv {m : Nat} (k : Nat) (hk : k + 1 ≤ m) {d : D} (h : sg k d) : ((Y m).f 15).2 [.dat d, .dat d] = some (.bool true, [.dat d, .dat d]) :=
  lvl (P := fun m => ((Y m).f 15).2 [.dat d, .dat d] = some (.bool true, [.dat d, .dat d])) (k + 1) (fun n => same_ok k n d h) m hk

/-- data that may be compared -/
def shD (n : Nat) (d : D) : Prop := PyData.canLay0 d = true ∧ PyData.depth d ≤ n
theorem shD_all {n : Nat} : ∀ {ds : List D}, (∀ d ∈ ds, shD n d) → PyData.canLayAll0 ds = true ∧ PyData.depthAll ds ≤ n
  | [], _ => ⟨rfl, Nat.zero_le _⟩
  | d :: ds, h => by
    obtain ⟨h1, h2⟩ := h d List.mem_cons_self
    obtain ⟨h3, h4⟩ := shD_all fun x hx => h x (List.mem_cons_of_mem _ hx)
    refine ⟨?_, ?_⟩
    · unfold PyData.canLayAll0
      rw [h1, h3]; rfl
    · unfold PyData.depthAll
      exact Nat.max_le.mpr ⟨h2, h4⟩
theorem shD_list {n : Nat} {ds : List D} (h : ∀ d ∈ ds, shD n d) : shD (n + 1) (.list ds) := by
  obtain ⟨h1, h2⟩ := shD_all h
  refine ⟨by unfold PyData.canLay0; exact h1, by unfold PyData.depth; exact Nat.succ_le_succ h2⟩
theorem shD_tuple {n : Nat} {ds : List D} (h : ∀ d ∈ ds, shD n d) : shD (n + 1) (.tuple ds) := by
  obtain ⟨h1, h2⟩ := shD_all h
  refine ⟨by unfold PyData.canLay0; exact h1, by unfold PyData.depth; exact Nat.succ_le_succ h2⟩
theorem shD_int (n : Nat) (i : Int) : shD n (.int i) := ⟨by unfold PyData.canLay0; rfl, by unfold PyData.depth; exact Nat.zero_le _⟩
theorem shD_none (n : Nat) : shD n .none := ⟨by unfold PyData.canLay0; rfl, by unfold PyData.depth; exact Nat.zero_le _⟩
theorem shD_cp (n : Nat) (q : Rat) : shD (n + 1) (cp q) := shD_tuple fun d hd => by
  rcases List.mem_cons.mp hd with rfl | hd
  · exact shD_int _ _
  · rcases List.mem_cons.mp hd with rfl | hd
    · exact shD_int _ _
    · cases hd
theorem shD.shp {n : Nat} {d : D} (h : shD n d) (hn : n ≤ 64) : shp d = true := by
  show (PyData.canLay0 d && decide (PyData.depth d ≤ 64)) = true
  rw [h.1, decide_eq_true (Nat.le_trans h.2 hn)]
  rfl
theorem eqD_ne_nil {n : Nat} {x : D} {xs : List D} (h : ∀ d ∈ x :: xs, shD n d) (hn : n ≤ 63) : eqD (.list (x :: xs)) (.list []) = some false := by
  show (if _ then _ else _) = _
  rw [if_pos ⟨(shD_list h).shp (by omega), rfl⟩]
  rfl
theorem add_ii (i j : Int) : addD (.int i) (.int j) = some (.int (i + j)) := rfl
theorem isNn : isN .none = true := rfl
theorem isNi (i : Int) : isN (.int i) = false := rfl
theorem isNb (b : Bool) : isN (.bool b) = false := rfl
theorem isNt (l : List D) : isN (.tuple l) = false := rfl
theorem isNl (l : List D) : isN (.list l) = false := rfl


theorem next_lv {lvm : Nat} (hm0 : 1 ≤ lvm) (ns : List Int) {k many : Int} (hk : 0 ≤ k) (hm : 0 < many) : ∃ r, 0 ≤ r ∧ r < many ∧ ((Y lvm).f 12).2 [.odic true (W ns k), .dat (.int many)] = some (.int r, [.odic true (W ns (k + 1)), .dat (.int many)]) :=
  lvl (P := fun lvm => ∃ r, 0 ≤ r ∧ r < many ∧ ((Y lvm).f 12).2 [.odic true (W ns k), .dat (.int many)] = some (.int r, [.odic true (W ns (k + 1)), .dat (.int many)])) 1 (fun n => next_ok n ns hk hm) lvm hm0
theorem pick_lv {lvm : Nat} (hm0 : 2 ≤ lvm) (ns : List Int) {k : Int} (hk : 0 ≤ k) {ds : List D} (hd : ds ≠ []) : ∃ d, d ∈ ds ∧ ((Y lvm).f 13).2 [.odic true (W ns k), .dat (.list ds)] = some (d, [.odic true (W ns (k + 1)), .dat (.list ds)]) :=
  lvl (P := fun lvm => ∃ d, d ∈ ds ∧ ((Y lvm).f 13).2 [.odic true (W ns k), .dat (.list ds)] = some (d, [.odic true (W ns (k + 1)), .dat (.list ds)])) 2 (fun n => pick_ok n ns hk hd) lvm hm0
theorem draws_lv {lvm : Nat} (hm0 : 1 ≤ lvm) (ns : List Int) (hl : ns.length ≤ 63) : ∃ rs : List Int, rs.length ≤ 300 ∧ ((Y lvm).f 11).2 [.rlst (ns.map PyData.int), .dat (.int 300)] = some (.list (rs.map PyData.int), [.rlst (ns.map PyData.int), .dat (.int 300)]) :=
  lvl (P := fun lvm => ∃ rs : List Int, rs.length ≤ 300 ∧ ((Y lvm).f 11).2 [.rlst (ns.map PyData.int), .dat (.int 300)] = some (.list (rs.map PyData.int), [.rlst (ns.map PyData.int), .dat (.int 300)])) 1 (fun n => draws_ok n ns hl) lvm hm0
end K31

set_option maxHeartbeats 4000000
namespace K31
open PySem L2 Pf
/-! ### k31: rows in which topics come back -/
abbrev Row := List (Option Nat)
abbrev Top := List (Nat × Nat × Nat)
def tm (tp : Top) (t : Nat) : Nat := (tp.getD t (0, 0, 0)).1
def le' (tp : Top) (t : Nat) : Nat := (tp.getD t (0, 0, 0)).2.1
def mo (tp : Top) (t : Nat) : Nat := (tp.getD t (0, 0, 0)).2.2
/-- where t stands, from i on -/
def posF (t : Nat) : Nat → Row → List Nat
  | _, [] => []
  | i, x :: r => if x = some t then i :: posF t (i + 1) r else posF t (i + 1) r
def pos (r : Row) (t : Nat) : List Nat := posF t 0 r
theorem posF_shift (t : Nat) : ∀ (r : Row) (i j : Nat), posF t (i + j) r = (posF t i r).map (· + j)
  | [], _, _ => rfl
  | x :: r, i, j => by
    have ih := posF_shift t r (i + 1) j
    unfold posF
    rw [show i + j + 1 = i + 1 + j by omega, ih]
    split <;> simp
theorem posF_append (t : Nat) : ∀ (r s : Row) (i : Nat), posF t i (r ++ s) = posF t i r ++ posF t (i + r.length) s
  | [], s, i => rfl
  | x :: r, s, i => by
    have ih := posF_append t r s (i + 1)
    rw [List.cons_append]
    unfold posF
    rw [ih, List.length_cons, show i + 1 + r.length = i + (r.length + 1) by omega]
    split
    · rw [List.cons_append]
      cases s <;> rfl
    · cases s <;> rfl
theorem pos_append (r s : Row) (t : Nat) : pos (r ++ s) t = pos r t ++ (pos s t).map (· + r.length) := by
  unfold pos
  rw [posF_append, ← posF_shift]
theorem pos_snoc (r : Row) (o : Option Nat) (t : Nat) : pos (r ++ [o]) t = pos r t ++ if o = some t then [r.length] else [] := by
  rw [pos_append]
  congr 1
  unfold pos posF
  by_cases z : o = some t
  · rw [if_pos z, if_pos z]
    show [0 + r.length] = _
    rw [Nat.zero_add]
  · rw [if_neg z, if_neg z]
    rfl
theorem pos_range (t : Nat) : ∀ r : Row, pos r t = (List.range r.length).filter fun k => decide (r[k]? = some (some t)) := fun r => by
  have h : ∀ n, n ≤ r.length → pos (r.take n) t = (List.range n).filter fun k => decide (r[k]? = some (some t)) := by
    intro n
    induction n with
    | zero => intro _; rfl
    | succ n ih =>
      intro hn
      have hn' : n < r.length := by omega
      have e : r.take (n + 1) = r.take n ++ [r[n]] := by rw [List.take_add_one, List.getElem?_eq_getElem hn']; rfl
      rw [e, pos_snoc, ih (by omega), List.range_succ, List.filter_append, List.length_take, Nat.min_eq_left (by omega)]
      congr 1
      rw [List.filter_cons, List.getElem?_eq_getElem hn']
      by_cases z : r[n] = some t
      · simp [z]
      · simp [z]
  have := h r.length (Nat.le_refl _)
  rw [List.take_of_length_le (Nat.le_refl _)] at this
  exact this
theorem pos_lt {r : Row} {t k : Nat} (h : k ∈ pos r t) : k < r.length := by
  rw [pos_range] at h
  exact List.mem_range.mp (List.mem_filter.mp h).1
def cnt (r : Row) (t : Nat) : Nat := (pos r t).length
theorem cnt_snoc (r : Row) (o : Option Nat) (t : Nat) : cnt (r ++ [o]) t = cnt r t + if o = some t then 1 else 0 := by
  unfold cnt
  rw [pos_snoc, List.length_append]
  split <;> rfl
/-- the differences of neighbours -/
def dif : List Nat → List Int
  | [] => []
  | [_] => []
  | x :: y :: l => ((y : Int) - (x : Int)) :: dif (y :: l)
theorem dif_len : ∀ l : List Nat, (dif l).length = l.length - 1
  | [] => rfl
  | [_] => rfl
  | x :: y :: l => by
    show (dif (y :: l)).length + 1 = (x :: y :: l).length - 1
    rw [dif_len (y :: l)]
    simp only [List.length_cons]
    omega
theorem dif_get : ∀ (l : List Nat) (k : Nat) (h : k + 1 < l.length), (dif l)[k]? = some (((l[k + 1] : Nat) : Int) - ((l[k]'(by omega) : Nat) : Int))
  | [], k, h => by simp at h
  | [_], k, h => by simp at h
  | x :: y :: l, 0, h => rfl
  | x :: y :: l, k + 1, h => by
    unfold dif
    rw [List.getElem?_cons_succ, dif_get (y :: l) k (by simpa using h)]
    rfl
theorem dif_snoc : ∀ (l : List Nat) (x : Nat), dif (l ++ [x]) = dif l ++ (match l.getLast? with | none => [] | some q => [(x : Int) - (q : Int)])
  | [], x => rfl
  | [y], x => rfl
  | y :: z :: l, x => by
    have ih := dif_snoc (z :: l) x
    rw [List.cons_append, List.cons_append] at *
    unfold dif
    rw [ih, List.getLast?_cons_cons]
    rfl
theorem dif_mem {l1 l2 : List Nat} {q x : Nat} (h : l1.getLast? = some q) : ((x : Int) - (q : Int)) ∈ dif (l1 ++ x :: l2) := by
  induction l1 with
  | nil => cases h
  | cons a l1 ih =>
    cases l1 with
    | nil =>
      cases h
      show _ ∈ dif (a :: x :: l2)
      unfold dif
      exact List.mem_cons_self
    | cons b l1 =>
      rw [List.getLast?_cons_cons] at h
      have := ih h
      show _ ∈ dif (a :: b :: (l1 ++ x :: l2))
      unfold dif
      exact List.mem_cons_of_mem _ this
def gaps (r : Row) (t : Nat) : List Int := dif (pos r t)
def last (r : Row) (t : Nat) : Option Nat := (pos r t).getLast?
theorem gaps_snoc (r : Row) (o : Option Nat) (t : Nat) : gaps (r ++ [o]) t = gaps r t ++ (if o = some t then (match last r t with | none => [] | some q => [(r.length : Int) - (q : Int)]) else []) := by
  unfold gaps last
  rw [pos_snoc]
  split
  · rw [dif_snoc]
  · rw [List.append_nil, List.append_nil]
/-- a gap that t may have -/
def gok (tp : Top) (t : Nat) (g : Int) : Bool := decide ((le' tp t : Int) ≤ g) && decide (g ≤ (mo tp t : Int))
def valid (tp : Top) (r : Row) : Bool := (List.range tp.length).all fun t => decide (cnt r t = tm tp t) && (gaps r t).all (gok tp t)
def cf (tp : Top) (r : Row) (t : Nat) : Bool := decide (cnt r t < tm tp t) && (match last r t with | none => true | some q => gok tp t ((r.length : Int) - (q : Int)))
def lost1 (tp : Top) (r : Row) (t : Nat) : Bool := match last r t with
  | none => false
  | some q => decide (cnt r t < tm tp t) && decide ((mo tp t : Int) < (r.length : Int) - (q : Int))
def lost (tp : Top) (r : Row) : Bool := (List.range tp.length).any (lost1 tp r)
def opts (tp : Top) : List (Option Nat) := (List.range tp.length).map some ++ [none]
/-- the law's look at the row with one more -/
def okst (tp : Top) (r : Row) (o : Option Nat) : Bool := ((List.range tp.length).all fun t => decide (cnt (r ++ [o]) t ≤ tm tp t)) && (match o with | none => true | some t => (match (gaps (r ++ [o]) t).getLast? with | none => true | some g => gok tp t g))
def ext (tp : Top) (r : Row) : List Row := ((opts tp).filter (okst tp r)).map fun o => r ++ [o]
def levs (tp : Top) : Nat → List Row
  | 0 => [[]]
  | p + 1 => (levs tp p).flatMap (ext tp)
def down (tp : Top) : Nat → Row → List Row
  | 0, r => [r]
  | k + 1, r => (ext tp r).flatMap (down tp k)
def stp (tp : Top) : Nat → List Row → List Row
  | 0, L => L
  | k + 1, L => stp tp k (L.flatMap (ext tp))
theorem down_stp (tp : Top) : ∀ (k : Nat) (L : List Row), L.flatMap (down tp k) = stp tp k L
  | 0, L => by
    unfold stp
    have : down tp 0 = fun r => [r] := rfl
    rw [this]
    exact List.flatMap_singleton' L
  | k + 1, L => by
    unfold stp
    rw [← down_stp tp k, List.flatMap_assoc]
    rfl
theorem stp_levs (tp : Top) : ∀ (k i : Nat), stp tp k (levs tp i) = levs tp (i + k)
  | 0, i => rfl
  | k + 1, i => by
    unfold stp
    have : (levs tp i).flatMap (ext tp) = levs tp (i + 1) := rfl
    rw [this, stp_levs tp k (i + 1), show i + 1 + k = i + (k + 1) by omega]
theorem levs_down (tp : Top) (p : Nat) : levs tp p = down tp p [] := by
  have h := down_stp tp p [[]]
  have h2 := stp_levs tp p 0
  rw [Nat.zero_add] at h2
  have e : levs tp 0 = [[]] := rfl
  rw [e] at h2
  rw [← h2, ← h]
  simp
/-- what every row of the search has -/
def OkR (tp : Top) (r : Row) : Prop := ∀ t, t < tp.length → cnt r t ≤ tm tp t ∧ ∀ g ∈ gaps r t, gok tp t g = true
theorem OkR_nil (tp : Top) : OkR tp [] := fun t _ => ⟨Nat.zero_le _, fun g hg => by cases hg⟩
theorem OkR_snoc {tp : Top} {r : Row} {o : Option Nat} (h : OkR tp r) (ho : okst tp r o = true) : OkR tp (r ++ [o]) := fun t ht => by
  unfold okst at ho
  rw [Bool.and_eq_true] at ho
  refine ⟨of_decide_eq_true (List.all_eq_true.mp ho.1 t (List.mem_range.mpr ht)), fun g hg => ?_⟩
  rw [gaps_snoc] at hg
  rcases List.mem_append.mp hg with z | z
  · exact (h t ht).2 g z
  · split at z
    · rename_i e
      subst e
      have h2 := ho.2
      dsimp only at h2
      rw [gaps_snoc, if_pos rfl] at h2
      split at z
      · cases z
      · rename_i q hq
        rw [hq] at h2
        dsimp only at h2
        rw [List.mem_singleton.mp z]
        rw [List.getLast?_append] at h2
        exact h2
    · cases z
theorem okst_cf {tp : Top} {r : Row} (h : OkR tp r) {t : Nat} (ht : t < tp.length) : okst tp r (some t) = cf tp r t := by
  unfold okst cf
  congr 1
  · rw [Bool.eq_iff_iff, List.all_eq_true, decide_eq_true_eq]
    constructor
    · intro k
      have := of_decide_eq_true (k t (List.mem_range.mpr ht))
      rw [cnt_snoc, if_pos rfl] at this
      omega
    · intro k t' ht'
      have := (h t' (List.mem_range.mp ht')).1
      rw [cnt_snoc]
      refine decide_eq_true ?_
      split
      · rename_i e
        cases e
        omega
      · omega
  · dsimp only
    rw [gaps_snoc, if_pos rfl]
    cases e : last r t with
    | none =>
      dsimp only
      rw [List.append_nil]
      have : gaps r t = [] := by
        unfold last at e
        unfold gaps
        rw [List.getLast?_eq_none_iff.mp e]
        rfl
      rw [this]
      rfl
    | some q =>
      dsimp only
      rw [List.getLast?_append]
      rfl
theorem okst_none {tp : Top} {r : Row} (h : OkR tp r) : okst tp r none = true := by
  unfold okst
  rw [Bool.and_true, List.all_eq_true]
  intro t ht
  rw [cnt_snoc]
  exact decide_eq_true (by
    have := (h t (List.mem_range.mp ht)).1
    simp
    exact this)
theorem opts_ok {tp : Top} {r : Row} (h : OkR tp r) : (opts tp).filter (okst tp r) = ((List.range tp.length).filter (cf tp r)).map some ++ [none] := by
  unfold opts
  rw [List.filter_append, List.filter_map]
  congr 1
  · congr 1
    refine List.filter_congr fun t ht => ?_
    exact okst_cf h (List.mem_range.mp ht)
  · rw [List.filter_cons, if_pos (okst_none h)]
    rfl
theorem down_pre (tp : Top) : ∀ (k : Nat) (r x : Row), x ∈ down tp k r → ∃ s, x = r ++ s ∧ s.length = k
  | 0, r, x, h => ⟨[], by
    rw [List.append_nil]
    exact List.mem_singleton.mp h, rfl⟩
  | k + 1, r, x, h => by
    obtain ⟨y, h1, h2⟩ := List.mem_flatMap.mp h
    obtain ⟨o, _, rfl⟩ := List.mem_map.mp h1
    obtain ⟨s, rfl, hs⟩ := down_pre tp k _ x h2
    exact ⟨o :: s, by rw [List.append_assoc]; rfl, by rw [List.length_cons, hs]⟩
theorem lost_none {tp : Top} {r s : Row} (h : lost tp r = true) : valid tp (r ++ s) = false := by
  obtain ⟨t, ht, hl⟩ := List.any_eq_true.mp h
  refine Bool.eq_false_iff.mpr fun hv => ?_
  have hv := List.all_eq_true.mp hv t ht
  rw [Bool.and_eq_true] at hv
  have h1 : cnt (r ++ s) t = tm tp t := of_decide_eq_true hv.1
  unfold lost1 at hl
  split at hl
  · cases hl
  · rename_i q hq
    rw [Bool.and_eq_true] at hl
    have h2 := of_decide_eq_true hl.1
    have h3 := of_decide_eq_true hl.2
    unfold cnt at h1 h2
    rw [pos_append, List.length_append, List.length_map] at h1
    cases e : pos s t with
    | nil => rw [e] at h1; simp at h1; omega
    | cons x l =>
      have hm : (((x + r.length : Nat) : Int) - (q : Int)) ∈ gaps (r ++ s) t := by
        unfold gaps
        rw [pos_append, e, List.map_cons]
        exact dif_mem hq
      have := List.all_eq_true.mp hv.2 _ hm
      unfold gok at this
      rw [Bool.and_eq_true] at this
      have := of_decide_eq_true this.2
      omega
/-- the search -/
def rf (tp : Top) : Nat → Row → Option Row
  | 0, r => if ((List.range tp.length).all fun t => decide (cnt r t = tm tp t)) = true then some r else none
  | k + 1, r => (((List.range tp.length).filter (cf tp r)).map some ++ [none]).findSome? fun o => if lost tp (r ++ [o]) = true then none else rf tp k (r ++ [o])
theorem rf_ok (tp : Top) : ∀ (k : Nat) (r : Row), OkR tp r → rf tp k r = (down tp k r).find? (valid tp)
  | 0, r, h => by
    unfold rf down
    have e : valid tp r = (List.range tp.length).all fun t => decide (cnt r t = tm tp t) := by
      unfold valid
      refine Bool.eq_iff_iff.mpr ?_
      rw [List.all_eq_true, List.all_eq_true]
      constructor
      · intro k t ht
        have := k t ht
        rw [Bool.and_eq_true] at this
        exact this.1
      · intro k t ht
        rw [Bool.and_eq_true]
        exact ⟨k t ht, List.all_eq_true.mpr fun g hg => (h t (List.mem_range.mp ht)).2 g hg⟩
    rw [← e]
    cases hv : valid tp r with
    | true => rw [if_pos rfl, List.find?_cons, hv]
    | false => rw [if_neg (by decide), List.find?_cons, hv]; rfl
  | k + 1, r, h => by
    unfold rf down
    rw [← opts_ok h]
    unfold ext
    rw [List.find?_flatMap, List.findSome?_map]
    have key : ∀ l : List (Option Nat), (∀ o ∈ l, okst tp r o = true) → l.findSome? (fun o => if lost tp (r ++ [o]) = true then none else rf tp k (r ++ [o])) = l.findSome? ((fun x => (down tp k x).find? (valid tp)) ∘ fun o => r ++ [o]) := by
      intro l
      induction l with
      | nil => intro _; rfl
      | cons o l ih =>
        intro ho
        have e : (if lost tp (r ++ [o]) = true then none else rf tp k (r ++ [o])) = (down tp k (r ++ [o])).find? (valid tp) := by
          split
          · rename_i hl
            refine (List.find?_eq_none.mpr fun x hx => ?_).symm
            obtain ⟨s, rfl, _⟩ := down_pre tp k _ x hx
            rw [lost_none hl]
            decide
          · exact rf_ok tp k _ (OkR_snoc h (ho o List.mem_cons_self))
        rw [List.findSome?_cons, List.findSome?_cons, ih fun o h => ho o (List.mem_cons_of_mem _ h), e]
        rfl
    exact key _ fun o ho => (List.mem_filter.mp ho).2
/-- the law's first row -/
def fstR (tp : Top) (p : Nat) : Option Row := (levs tp p).find? (valid tp)
theorem rf_first (tp : Top) (p : Nat) : rf tp p [] = fstR tp p := by
  unfold fstR
  rw [rf_ok tp p [] (OkR_nil tp), levs_down]
/-- rows whose every topic is known -/
def InR (tp : Top) (r : Row) : Prop := ∀ o ∈ r, ∀ t, o = some t → t < tp.length
theorem levs_in (tp : Top) : ∀ (p : Nat) (r : Row), r ∈ levs tp p → r.length = p ∧ InR tp r
  | 0, r, h => by
    rw [List.mem_singleton.mp h]
    exact ⟨rfl, fun o ho => by cases ho⟩
  | p + 1, r, h => by
    obtain ⟨y, h1, h2⟩ := List.mem_flatMap.mp h
    obtain ⟨o, ho, rfl⟩ := List.mem_map.mp h2
    obtain ⟨e1, e2⟩ := levs_in tp p y h1
    refine ⟨by rw [List.length_append, e1]; rfl, fun x hx t e => ?_⟩
    rcases List.mem_append.mp hx with z | z
    · exact e2 x z t e
    · rw [List.mem_singleton.mp z] at e
      subst e
      have := (List.mem_filter.mp ho).1
      unfold opts at this
      rcases List.mem_append.mp this with q | q
      · obtain ⟨a, ha, hb⟩ := List.mem_map.mp q
        cases hb
        exact List.mem_range.mp ha
      · cases List.mem_singleton.mp q
theorem ext_len (tp : Top) (r : Row) : (ext tp r).length ≤ tp.length + 1 := by
  unfold ext
  rw [List.length_map]
  refine Nat.le_trans (List.length_filter_le _ _) ?_
  unfold opts
  rw [List.length_append, List.length_map, List.length_range]
  exact Nat.le_refl _
theorem levs_len (tp : Top) : ∀ p, (levs tp p).length ≤ (tp.length + 1) ^ p
  | 0 => Nat.le_refl _
  | p + 1 => by
    have key : ∀ L : List Row, (L.flatMap (ext tp)).length ≤ (tp.length + 1) * L.length := by
      intro L
      induction L with
      | nil => simp
      | cons r L ih =>
        rw [List.flatMap_cons, List.length_append, List.length_cons, Nat.mul_succ]
        have := ext_len tp r
        omega
    refine Nat.le_trans (key (levs tp p)) ?_
    rw [Nat.pow_succ, Nat.mul_comm]
    exact Nat.mul_le_mul_right _ (levs_len tp p)


end K31

set_option maxHeartbeats 4000000
namespace K31
open PySem L2 Pf
/-- the first number below n that c is true of -/
def ff (c : Nat → Bool) : Nat → Option Nat
  | 0 => none
  | n + 1 => match ff c n with
    | some k => some k
    | none => if c n = true then some n else none
theorem ff_mono {c : Nat → Bool} {i k : Nat} (h : ff c i = some k) : ∀ m, ff c (i + m) = some k
  | 0 => h
  | m + 1 => by
    show (match ff c (i + m) with | some k => some k | none => if c (i + m) = true then some (i + m) else none) = some k
    rw [ff_mono h m]
theorem ff_head (c : Nat → Bool) : ∀ n, ((List.range n).filter c).head? = ff c n
  | 0 => rfl
  | n + 1 => by
    rw [List.range_succ, List.filter_append, List.head?_append, ff_head c n]
    show _ = (match ff c n with | some k => some k | none => if c n = true then some n else none)
    cases ff c n with
    | some k => rfl
    | none => by_cases h : c n = true <;> simp [h]
theorem ff_some {c : Nat → Bool} {n : Nat} (h : c n = true) : ∃ k, ff c (n + 1) = some k ∧ k ≤ n ∧ c k = true := by
  have key : ∀ m k, ff c m = some k → k < m ∧ c k = true := by
    intro m
    induction m with
    | zero => intro k h; cases h
    | succ m ih =>
      intro k h
      have h : (match ff c m with | some k => some k | none => if c m = true then some m else none) = some k := h
      cases e : ff c m with
      | some j =>
        rw [e] at h
        cases h
        exact ⟨by have := (ih k e).1; omega, (ih k e).2⟩
      | none =>
        rw [e] at h
        dsimp only at h
        split at h
        · cases h; exact ⟨by omega, by assumption⟩
        · cases h
  cases e : ff c n with
  | some k => exact ⟨k, ff_mono e 1, by have := (key n k e).1; omega, (key n k e).2⟩
  | none =>
    refine ⟨n, ?_, Nat.le_refl _, h⟩
    show (match ff c n with | some k => some k | none => if c n = true then some n else none) = some n
    rw [e, h]; rfl
theorem ff_least {c : Nat → Bool} : ∀ {n k : Nat}, ff c n = some k → ∀ j, j < k → c j = false
  | 0, k, h => by cases h
  | n + 1, k, h => by
    have h : (match ff c n with | some k => some k | none => if c n = true then some n else none) = some k := h
    cases e : ff c n with
    | some i =>
      rw [e] at h
      cases h
      exact ff_least e
    | none =>
      rw [e] at h
      dsimp only at h
      split at h
      · cases h
        intro j hj
        have no : ∀ m, ff c m = none → ∀ i, i < m → c i = false := by
          intro m
          induction m with
          | zero => intro _ i hi; omega
          | succ m ih =>
            intro hm i hi
            have hm : (match ff c m with | some k => some k | none => if c m = true then some m else none) = none := hm
            cases e2 : ff c m with
            | some _ => rw [e2] at hm; cases hm
            | none =>
              rw [e2] at hm
              dsimp only at hm
              by_cases hc : c m = true
              · rw [if_pos hc] at hm; cases hm
              · rcases Nat.lt_or_ge i m with h | h
                · exact ih e2 i h
                · have : i = m := by omega
                  subst this
                  exact Bool.eq_false_iff.mpr hc
        exact no n e j hj
      · cases h
theorem ff_is {c : Nat → Bool} {n b : Nat} (hb : b < n) (hc : c b = true) (hl : ∀ j, j < b → c j = false) : ff c n = some b := by
  obtain ⟨k, h1, h2, h3⟩ := ff_some (c := c) (n := b) hc
  have hk : k = b := by
    rcases Nat.lt_or_ge k b with z | z
    · rw [hl k z] at h3; cases h3
    · omega
  subst hk
  have := ff_mono h1 (n - (k + 1))
  rw [show k + 1 + (n - (k + 1)) = n by omega] at this
  exact this

def od (o : Option Nat) : D := match o with
  | none => .none
  | some k => .int (k : Int)
def rd (r : Row) : D := .tuple (r.map od)
def trD (t : Nat × Nat × Nat) : D := .tuple [.int (t.1 : Int), .int (t.2.1 : Int), .int (t.2.2 : Int)]
def td (tp : Top) : D := .tuple (tp.map trD)
def nl (l : List Nat) : List D := l.map fun n : Nat => .int (n : Int)
def il (l : List Int) : List D := l.map .int
theorem eqD_od (o : Option Nat) (t : Nat) : eqD (od o) (.int (t : Int)) = some (decide (o = some t)) := by
  cases o with
  | none =>
    show (if _ then _ else _) = _
    rw [if_pos ⟨rfl, rfl⟩]
    rfl
  | some a =>
    show eqD (.int (a : Int)) (.int (t : Int)) = _
    rw [eqD_int]
    congr 1
    refine decide_eq_decide.mpr ?_
    rw [Option.some.injEq]
    omega
theorem at_rd {r : Row} {k : Nat} (h : k < r.length) : atI (r.map od) (k : Int) = some (od r[k]) := atI_nat (by rw [List.getElem?_map, List.getElem?_eq_getElem h]; rfl)
theorem atD_rd {r : Row} {k : Nat} (h : k < r.length) : atD (rd r) (.int (k : Int)) = some (od r[k]) := at_rd h
theorem fn_len_rd (r : Row) : fnD .len [rd r] = some (.int (r.length : Int)) := by
  show some (PyData.int ((r.map od).length : Int)) = _
  rw [List.length_map]
theorem fn_len_td (tp : Top) : fnD .len [td tp] = some (.int (tp.length : Int)) := by
  show some (PyData.int ((tp.map trD).length : Int)) = _
  rw [List.length_map]
theorem atD_td {tp : Top} {t : Nat} (h : t < tp.length) : atD (td tp) (.int (t : Int)) = some (.tuple [.int (tm tp t : Int), .int (le' tp t : Int), .int (mo tp t : Int)]) := by
  show atI (tp.map trD) (t : Int) = _
  refine atI_nat ?_
  unfold tm le' mo
  rw [List.getElem?_map, List.getElem?_eq_getElem h, List.getD_eq_getElem?_getD, List.getElem?_eq_getElem h]
  rfl
theorem rng1z_ev {Y : Sys} {as : Os} {en en1 : En} {os : List Op} {m : Int} {k : Nat} (h : evOs Y as en = some (os, en1)) (h2 : rsAll os en1 = some [.int m]) (hm : m.toNat = k) (hn : -100000 ≤ m) (hk : k ≤ 100000) : evI Y (.rng1 as) en = some (rngD 0 k, en1) := by
  rw [evI]; unfold fRng1
  rw [h, Option.bind_some, h2, Option.bind_some]
  show (if -1000000 ≤ m ∧ m ≤ 1000000 then some (rngD 0 m.toNat, en1) else none) = _
  rw [if_pos (by omega), hm]
theorem rngB_ev {Y : Sys} {as : Os} {en en1 : En} {os : List Op} {lo m : Int} {k : Nat} (h : evOs Y as en = some (os, en1)) (h2 : rsAll os en1 = some [.int lo, .int m, .int (-1)]) (hk : (lo - m).toNat = k) (h3 : -1000 ≤ lo) (h4 : lo ≤ 1000) (h5 : -1000 ≤ m) (h6 : m ≤ 1000) : evI Y (.rngB as) en = some (rngB lo k, en1) := by
  rw [evI]; unfold fRngB
  rw [h, Option.bind_some, h2, Option.bind_some]
  show (if -1000000 ≤ lo ∧ lo ≤ 1000000 ∧ -1000000 ≤ m ∧ m ≤ 1000000 then some (rngB lo (lo - m).toNat, en1) else none) = _
  rw [if_pos (by omega), hk]
theorem range_getD (l : List Int) : (List.range l.length).map (fun k => PyData.int (l.getD k 0)) = il l := by
  refine List.ext_getElem? fun k => ?_
  unfold il
  rw [List.getElem?_map, List.getElem?_map]
  by_cases h : k < l.length
  · rw [List.getElem?_range h, List.getElem?_eq_getElem h]
    show some (PyData.int (l.getD k 0)) = _
    rw [List.getD_eq_getElem?_getD, List.getElem?_eq_getElem h]
    rfl
  · rw [List.getElem?_eq_none (by rw [List.length_range]; omega), List.getElem?_eq_none (by omega)]
    rfl
theorem dif_getD {l : List Nat} {k : Nat} (h : k + 1 < l.length) : (dif l).getD k 0 = ((l[k + 1] : Nat) : Int) - ((l[k]'(by omega) : Nat) : Int) := by
  rw [List.getD_eq_getElem?_getD, dif_get l k h]
  rfl
theorem nl_len (l : List Nat) : (nl l).length = l.length := List.length_map _
theorem nl_at {l : List Nat} {k : Nat} (h : k < l.length) : atI (nl l) (k : Int) = some (.int ((l[k] : Nat) : Int)) := atI_nat (by unfold nl; rw [List.getElem?_map, List.getElem?_eq_getElem h]; rfl)
theorem pos_len (r : Row) (t : Nat) : (pos r t).length ≤ r.length := by
  rw [pos_range]
  refine Nat.le_trans (List.length_filter_le _ _) ?_
  rw [List.length_range]
  exact Nat.le_refl _
theorem gaps_of_ok (n : Nat) {r : Row} (h : r.length ≤ 10) (t : Nat) : ((Y (n + 1)).f 2).2 [.dat (rd r), .dat (.int (t : Int))] = some (.tuple (il (gaps r t)), [.dat (rd r), .dat (.int (t : Int))]) := by
  have hcomp := comp_map (vs := [3]) (bd := evG (.name 3)) (cond := evC (Y n) c_gaps_of_1c) (elt := evE (Y n) c_gaps_of_1e) (f := fun i : Nat => PyData.int (i : Int)) (g := fun i : Nat => PyData.int (i : Int)) (p := fun k => decide (r[k]? = some (some t))) (en := [some (.dat (rd r)), some (.dat (.int (t : Int))), none, none]) (List.range r.length) fun k hk => by
    have hk := List.mem_range.mp hk
    have a1 := atD_rd hk
    have e1 := eqD_od r[k] t
    rw [List.getElem?_eq_getElem hk]
    have e2 : decide (some r[k] = some (some t)) = decide (r[k] = some t) := decide_eq_decide.mpr (by rw [Option.some.injEq])
    rw [e2]
    generalize decide (r[k] = some t) = b at *
    refine ⟨[some (.dat (rd r)), some (.dat (.int (t : Int))), none, some (.dat (.int (k : Int)))], [some (.dat (rd r)), some (.dat (.int (t : Int))), none, some (.dat (.int (k : Int)))], rfl, ?_, ?_⟩
    · simp [c_gaps_of_1c, evB, evS, evE, evL, evO, evOs, evEs, evT, evTs, evI, evC, evP, evDd, evPs, evWs, evG, evGs, fSeq2, aft, fNext, fRet, fIf, fAsg, fAsgL, fAsgT, fAsgD, fPar, fWv, fWl, fW0, setWs, wiS, fLit, fVar, Pf.slotAt, varS, fBin, fNeg, negD, fCmp, fChain, fAnd, fOr, fNot, fBool, boolS, fTest, fIte, fAt, fAtD, fCut, fPart, fNoPart, fOs, fOs0, fFn, fVs, fVs0, fTup, fFresh, fDisp, fTupOf, fListOf, fIsi, fCall, fCallW, fVal, fSlotC, isSet, Pf.rs, Pf.rsS, Pf.rsV, rsAll, rsD, keyD, datS, datsS, setS_s, setS_dv, setS_ol, setS_dat, setS_none, setS_olst, setS_rlst, setS_fdic, setS_odic, gN, gT, gs0, gsC, lenIs, binD, addD, subD, mulD, fdivD, modD, cmpD, ordD, isD, isN, isiD, at_l, at_t, fn_lenL, fn_lenT, fn_max2, fn_abs, fn_int, fn_intb, intV, seq_l, seq_t, lstV, fApp, fAugD, fAugI, olS, odS, odH, inS, getElem_s, a1, e1]
    · split
      · exact ⟨[some (.dat (rd r)), some (.dat (.int (t : Int))), none, some (.dat (.int (k : Int)))], by simp [c_gaps_of_1e, evB, evS, evE, evL, evO, evOs, evEs, evT, evTs, evI, evC, evP, evDd, evPs, evWs, evG, evGs, fSeq2, aft, fNext, fRet, fIf, fAsg, fAsgL, fAsgT, fAsgD, fPar, fWv, fWl, fW0, setWs, wiS, fLit, fVar, Pf.slotAt, varS, fBin, fNeg, negD, fCmp, fChain, fAnd, fOr, fNot, fBool, boolS, fTest, fIte, fAt, fAtD, fCut, fPart, fNoPart, fOs, fOs0, fFn, fVs, fVs0, fTup, fFresh, fDisp, fTupOf, fListOf, fIsi, fCall, fCallW, fVal, fSlotC, isSet, Pf.rs, Pf.rsS, Pf.rsV, rsAll, rsD, keyD, datS, datsS, setS_s, setS_dv, setS_ol, setS_dat, setS_none, setS_olst, setS_rlst, setS_fdic, setS_odic, gN, gT, gs0, gsC, lenIs, binD, addD, subD, mulD, fdivD, modD, cmpD, ordD, isD, isN, isiD, at_l, at_t, fn_lenL, fn_lenT, fn_max2, fn_abs, fn_int, fn_intb, intV, seq_l, seq_t, lstV, fApp, fAugD, fAugI, olS, odS, odH, inS, getElem_s], rfl⟩
      · rfl
  rw [← pos_range t r] at hcomp
  have hc : evL (Y n) c_gaps_of_1 [some (.dat (rd r)), some (.dat (.int (t : Int))), none, none] = some (nl (pos r t), [some (.dat (rd r)), some (.dat (.int (t : Int))), none, none]) := by
    unfold c_gaps_of_1
    refine (comp_ev (ds := rngD 0 r.length) (en1 := [some (.dat (rd r)), some (.dat (.int (t : Int))), none, none]) (en2 := [some (.dat (rd r)), some (.dat (.int (t : Int))), none, none]) (r := nl (pos r t)) ?_ ?_ ?_).trans rfl
    · exact rng1_ev (os := [.val (.dat (.int (r.length : Int)))]) (m := (r.length : Int)) (by simp [evB, evS, evE, evL, evO, evOs, evEs, evT, evTs, evI, evC, evP, evDd, evPs, evWs, evG, evGs, fSeq2, aft, fNext, fRet, fIf, fAsg, fAsgL, fAsgT, fAsgD, fPar, fWv, fWl, fW0, setWs, wiS, fLit, fVar, Pf.slotAt, varS, fBin, fNeg, negD, fCmp, fChain, fAnd, fOr, fNot, fBool, boolS, fTest, fIte, fAt, fAtD, fCut, fPart, fNoPart, fOs, fOs0, fFn, fVs, fVs0, fTup, fFresh, fDisp, fTupOf, fListOf, fIsi, fCall, fCallW, fVal, fSlotC, isSet, Pf.rs, Pf.rsS, Pf.rsV, rsAll, rsD, keyD, datS, datsS, setS_s, setS_dv, setS_ol, setS_dat, setS_none, setS_olst, setS_rlst, setS_fdic, setS_odic, gN, gT, gs0, gsC, lenIs, binD, addD, subD, mulD, fdivD, modD, cmpD, ordD, isD, isN, isiD, at_l, at_t, fn_lenL, fn_lenT, fn_max2, fn_abs, fn_int, fn_intb, intV, seq_l, seq_t, lstV, fApp, fAugD, fAugI, olS, odS, odH, inS, getElem_s, fn_len_rd]) (by simp [evB, evS, evE, evL, evO, evOs, evEs, evT, evTs, evI, evC, evP, evDd, evPs, evWs, evG, evGs, fSeq2, aft, fNext, fRet, fIf, fAsg, fAsgL, fAsgT, fAsgD, fPar, fWv, fWl, fW0, setWs, wiS, fLit, fVar, Pf.slotAt, varS, fBin, fNeg, negD, fCmp, fChain, fAnd, fOr, fNot, fBool, boolS, fTest, fIte, fAt, fAtD, fCut, fPart, fNoPart, fOs, fOs0, fFn, fVs, fVs0, fTup, fFresh, fDisp, fTupOf, fListOf, fIsi, fCall, fCallW, fVal, fSlotC, isSet, Pf.rs, Pf.rsS, Pf.rsV, rsAll, rsD, keyD, datS, datsS, setS_s, setS_dv, setS_ol, setS_dat, setS_none, setS_olst, setS_rlst, setS_fdic, setS_odic, gN, gT, gs0, gsC, lenIs, binD, addD, subD, mulD, fdivD, modD, cmpD, ordD, isD, isN, isiD, at_l, at_t, fn_lenL, fn_lenT, fn_max2, fn_abs, fn_int, fn_intb, intV, seq_l, seq_t, lstV, fApp, fAugD, fAugI, olS, odS, odH, inS, getElem_s]) rfl (by omega)
    · rw [rngD_len]; unfold lim; omega
    · rw [rngD_map]; exact hcomp
  have hpl := pos_len r t
  obtain ⟨l, hl⟩ : ∃ l, l = pos r t := ⟨_, rfl⟩
  rw [← hl] at hc hpl
  have hcomp2 := comp_map (vs := [3]) (bd := evG (.name 3)) (cond := evC (Y n) c_gaps_of_2c) (elt := evE (Y n) c_gaps_of_2e) (f := fun i : Nat => PyData.int (i : Int)) (g := fun k : Nat => PyData.int ((dif l).getD k 0)) (p := fun _ => true) (en := [some (.dat (rd r)), some (.dat (.int (t : Int))), some (.olst (nl l)), none]) (List.range (dif l).length) fun k hk => by
    have hk := List.mem_range.mp hk
    rw [dif_len] at hk
    have a1 := nl_at (l := l) (k := k) (by omega)
    have a2 := nl_at (l := l) (k := k + 1) (by omega)
    rw [show ((k + 1 : Nat) : Int) = (k : Int) + 1 by omega] at a2
    rw [dif_getD (by omega)]
    generalize nl l = xs at *
    refine ⟨[some (.dat (rd r)), some (.dat (.int (t : Int))), some (.olst xs), some (.dat (.int (k : Int)))], [some (.dat (rd r)), some (.dat (.int (t : Int))), some (.olst xs), some (.dat (.int (k : Int)))], rfl, rfl, ?_⟩
    rw [if_pos rfl]
    exact ⟨[some (.dat (rd r)), some (.dat (.int (t : Int))), some (.olst xs), some (.dat (.int (k : Int)))], by simp [c_gaps_of_2e, evB, evS, evE, evL, evO, evOs, evEs, evT, evTs, evI, evC, evP, evDd, evPs, evWs, evG, evGs, fSeq2, aft, fNext, fRet, fIf, fAsg, fAsgL, fAsgT, fAsgD, fPar, fWv, fWl, fW0, setWs, wiS, fLit, fVar, Pf.slotAt, varS, fBin, fNeg, negD, fCmp, fChain, fAnd, fOr, fNot, fBool, boolS, fTest, fIte, fAt, fAtD, fCut, fPart, fNoPart, fOs, fOs0, fFn, fVs, fVs0, fTup, fFresh, fDisp, fTupOf, fListOf, fIsi, fCall, fCallW, fVal, fSlotC, isSet, Pf.rs, Pf.rsS, Pf.rsV, rsAll, rsD, keyD, datS, datsS, setS_s, setS_dv, setS_ol, setS_dat, setS_none, setS_olst, setS_rlst, setS_fdic, setS_odic, gN, gT, gs0, gsC, lenIs, binD, addD, subD, mulD, fdivD, modD, cmpD, ordD, isD, isN, isiD, at_l, at_t, fn_lenL, fn_lenT, fn_max2, fn_abs, fn_int, fn_intb, intV, seq_l, seq_t, lstV, fApp, fAugD, fAugI, olS, odS, odH, inS, getElem_s, a1, a2], rfl⟩
  rw [List.filter_eq_self.mpr fun _ _ => rfl, range_getD] at hcomp2
  have hnl := nl_len l
  have hc2 : evL (Y n) c_gaps_of_2 [some (.dat (rd r)), some (.dat (.int (t : Int))), some (.olst (nl l)), none] = some (il (gaps r t), [some (.dat (rd r)), some (.dat (.int (t : Int))), some (.olst (nl l)), none]) := by
    unfold c_gaps_of_2 gaps
    rw [← hl]
    refine (comp_ev (ds := rngD 0 (dif l).length) (en1 := [some (.dat (rd r)), some (.dat (.int (t : Int))), some (.olst (nl l)), none]) (en2 := [some (.dat (rd r)), some (.dat (.int (t : Int))), some (.olst (nl l)), none]) (r := il (dif l)) ?_ ?_ ?_).trans rfl
    · generalize nl l = xs at *
      exact rng1z_ev (os := [.val (.dat (.int ((xs.length : Int) - 1)))]) (m := (xs.length : Int) - 1) (by simp [evB, evS, evE, evL, evO, evOs, evEs, evT, evTs, evI, evC, evP, evDd, evPs, evWs, evG, evGs, fSeq2, aft, fNext, fRet, fIf, fAsg, fAsgL, fAsgT, fAsgD, fPar, fWv, fWl, fW0, setWs, wiS, fLit, fVar, Pf.slotAt, varS, fBin, fNeg, negD, fCmp, fChain, fAnd, fOr, fNot, fBool, boolS, fTest, fIte, fAt, fAtD, fCut, fPart, fNoPart, fOs, fOs0, fFn, fVs, fVs0, fTup, fFresh, fDisp, fTupOf, fListOf, fIsi, fCall, fCallW, fVal, fSlotC, isSet, Pf.rs, Pf.rsS, Pf.rsV, rsAll, rsD, keyD, datS, datsS, setS_s, setS_dv, setS_ol, setS_dat, setS_none, setS_olst, setS_rlst, setS_fdic, setS_odic, gN, gT, gs0, gsC, lenIs, binD, addD, subD, mulD, fdivD, modD, cmpD, ordD, isD, isN, isiD, at_l, at_t, fn_lenL, fn_lenT, fn_max2, fn_abs, fn_int, fn_intb, intV, seq_l, seq_t, lstV, fApp, fAugD, fAugI, olS, odS, odH, inS, getElem_s]) (by simp [evB, evS, evE, evL, evO, evOs, evEs, evT, evTs, evI, evC, evP, evDd, evPs, evWs, evG, evGs, fSeq2, aft, fNext, fRet, fIf, fAsg, fAsgL, fAsgT, fAsgD, fPar, fWv, fWl, fW0, setWs, wiS, fLit, fVar, Pf.slotAt, varS, fBin, fNeg, negD, fCmp, fChain, fAnd, fOr, fNot, fBool, boolS, fTest, fIte, fAt, fAtD, fCut, fPart, fNoPart, fOs, fOs0, fFn, fVs, fVs0, fTup, fFresh, fDisp, fTupOf, fListOf, fIsi, fCall, fCallW, fVal, fSlotC, isSet, Pf.rs, Pf.rsS, Pf.rsV, rsAll, rsD, keyD, datS, datsS, setS_s, setS_dv, setS_ol, setS_dat, setS_none, setS_olst, setS_rlst, setS_fdic, setS_odic, gN, gT, gs0, gsC, lenIs, binD, addD, subD, mulD, fdivD, modD, cmpD, ordD, isD, isN, isiD, at_l, at_t, fn_lenL, fn_lenT, fn_max2, fn_abs, fn_int, fn_intb, intV, seq_l, seq_t, lstV, fApp, fAugD, fAugI, olS, odS, odH, inS, getElem_s]) (by rw [dif_len]; omega) (by omega) (by rw [dif_len]; omega)
    · rw [rngD_len, dif_len]; unfold lim; omega
    · rw [rngD_map]; exact hcomp2
  rw [f_gaps_of]
  generalize nl l = xs at *
  generalize il (gaps r t) = ys at *
  refine fb_ret (en' := [some (.dat (rd r)), some (.dat (.int (t : Int))), some (.olst xs), none]) rfl (B_next (en1 := [some (.dat (rd r)), some (.dat (.int (t : Int))), some (.olst xs), none]) ?_ (B_ret ?_)) rfl
  · simp [evB, evS, evE, evL, evO, evOs, evEs, evT, evTs, evI, evC, evP, evDd, evPs, evWs, evG, evGs, fSeq2, aft, fNext, fRet, fIf, fAsg, fAsgL, fAsgT, fAsgD, fPar, fWv, fWl, fW0, setWs, wiS, fLit, fVar, Pf.slotAt, varS, fBin, fNeg, negD, fCmp, fChain, fAnd, fOr, fNot, fBool, boolS, fTest, fIte, fAt, fAtD, fCut, fPart, fNoPart, fOs, fOs0, fFn, fVs, fVs0, fTup, fFresh, fDisp, fTupOf, fListOf, fIsi, fCall, fCallW, fVal, fSlotC, isSet, Pf.rs, Pf.rsS, Pf.rsV, rsAll, rsD, keyD, datS, datsS, setS_s, setS_dv, setS_ol, setS_dat, setS_none, setS_olst, setS_rlst, setS_fdic, setS_odic, gN, gT, gs0, gsC, lenIs, binD, addD, subD, mulD, fdivD, modD, cmpD, ordD, isD, isN, isiD, at_l, at_t, fn_lenL, fn_lenT, fn_max2, fn_abs, fn_int, fn_intb, intV, seq_l, seq_t, lstV, fApp, fAugD, fAugI, olS, odS, odH, inS, getElem_s, List.replicate, hc]
  · simp [evB, evS, evE, evL, evO, evOs, evEs, evT, evTs, evI, evC, evP, evDd, evPs, evWs, evG, evGs, fSeq2, aft, fNext, fRet, fIf, fAsg, fAsgL, fAsgT, fAsgD, fPar, fWv, fWl, fW0, setWs, wiS, fLit, fVar, Pf.slotAt, varS, fBin, fNeg, negD, fCmp, fChain, fAnd, fOr, fNot, fBool, boolS, fTest, fIte, fAt, fAtD, fCut, fPart, fNoPart, fOs, fOs0, fFn, fVs, fVs0, fTup, fFresh, fDisp, fTupOf, fListOf, fIsi, fCall, fCallW, fVal, fSlotC, isSet, Pf.rs, Pf.rsS, Pf.rsV, rsAll, rsD, keyD, datS, datsS, setS_s, setS_dv, setS_ol, setS_dat, setS_none, setS_olst, setS_rlst, setS_fdic, setS_odic, gN, gT, gs0, gsC, lenIs, binD, addD, subD, mulD, fdivD, modD, cmpD, ordD, isD, isN, isiD, at_l, at_t, fn_lenL, fn_lenT, fn_max2, fn_abs, fn_int, fn_intb, intV, seq_l, seq_t, lstV, fApp, fAugD, fAugI, olS, odS, odH, inS, getElem_s, hc2]
theorem last_snoc (r : Row) (o : Option Nat) (t : Nat) : last (r ++ [o]) t = if o = some t then some r.length else last r t := by
  unfold last
  rw [pos_snoc]
  split
  · rw [List.getLast?_append]; rfl
  · rw [List.append_nil]
theorem last_place_ok (n : Nat) {r : Row} (h : r.length ≤ 10) (t : Nat) : ((Y (n + 1)).f 3).2 [.dat (rd r), .dat (.int (t : Int))] = some (od (last r t), [.dat (rd r), .dat (.int (t : Int))]) := by
  obtain ⟨fl, en', h1, h2⟩ := loop_ret (bd := evG (.name 2)) (body := evB (Y n) b_last_place_1) (P := fun i en => last r t = last (r.take (r.length - i)) t ∧ ∃ o2 : Option D, en = [some (.dat (rd r)), some (.dat (.int (t : Int))), o2.map SV.dat]) (R := fun v en => v = od (last r t) ∧ ∃ o2 : Option D, en = [some (.dat (rd r)), some (.dat (.int (t : Int))), o2.map SV.dat]) (rngB ((r.length : Int) - 1) r.length) 0 [some (.dat (rd r)), some (.dat (.int (t : Int))), none] ⟨by rw [Nat.sub_zero, List.take_of_length_le (Nat.le_refl _)], none, rfl⟩ fun j d en hd hP => by
    obtain ⟨hP, o2, rfl⟩ := hP
    rw [Nat.zero_add] at hP ⊢
    obtain ⟨hj, rfl⟩ : j < r.length ∧ d = .int (((r.length - 1 - j : Nat) : Int)) := by
      unfold rngB at hd
      rw [List.getElem?_map] at hd
      obtain ⟨i, e1, e2⟩ := Option.map_eq_some_iff.mp hd
      obtain ⟨q1, q2⟩ := List.getElem?_eq_some_iff.mp e1
      rw [List.length_range] at q1
      rw [List.getElem_range] at q2
      subst q2 e2
      exact ⟨q1, by congr 1; omega⟩
    obtain ⟨k, hk⟩ : ∃ k, k = r.length - 1 - j := ⟨_, rfl⟩
    have hkl : k < r.length := by omega
    rw [← hk]
    have et : r.take (r.length - j) = r.take k ++ [r[k]] := by
      rw [show r.length - j = k + 1 by omega, List.take_add_one, List.getElem?_eq_getElem hkl]; rfl
    rw [et, last_snoc, List.length_take, Nat.min_eq_left (by omega)] at hP
    have a1 := atD_rd hkl
    have e1 := eqD_od r[k] t
    refine ⟨[some (.dat (rd r)), some (.dat (.int (t : Int))), some (.dat (.int (k : Int)))], if r[k] = some t then .ret (.int (k : Int)) else .next, [some (.dat (rd r)), some (.dat (.int (t : Int))), some (.dat (.int (k : Int)))], gN_dv rfl, ?_, ?_⟩
    · by_cases z : r[k] = some t
      · rw [if_pos z]
        rw [decide_eq_true z] at e1
        simp [b_last_place_1, evB, evS, evE, evL, evO, evOs, evEs, evT, evTs, evI, evC, evP, evDd, evPs, evWs, evG, evGs, fSeq2, aft, fNext, fRet, fIf, fAsg, fAsgL, fAsgT, fAsgD, fPar, fWv, fWl, fW0, setWs, wiS, fLit, fVar, Pf.slotAt, varS, fBin, fNeg, negD, fCmp, fChain, fAnd, fOr, fNot, fBool, boolS, fTest, fIte, fAt, fAtD, fCut, fPart, fNoPart, fOs, fOs0, fFn, fVs, fVs0, fTup, fFresh, fDisp, fTupOf, fListOf, fIsi, fCall, fCallW, fVal, fSlotC, isSet, Pf.rs, Pf.rsS, Pf.rsV, rsAll, rsD, keyD, datS, datsS, setS_s, setS_dv, setS_ol, setS_dat, setS_none, setS_olst, setS_rlst, setS_fdic, setS_odic, gN, gT, gs0, gsC, lenIs, binD, addD, subD, mulD, fdivD, modD, cmpD, ordD, isD, isN, isiD, at_l, at_t, fn_lenL, fn_lenT, fn_max2, fn_abs, fn_int, fn_intb, intV, seq_l, seq_t, lstV, fApp, fAugD, fAugI, olS, odS, odH, inS, getElem_s, a1, e1]
      · rw [if_neg z]
        rw [decide_eq_false z] at e1
        simp [b_last_place_1, evB, evS, evE, evL, evO, evOs, evEs, evT, evTs, evI, evC, evP, evDd, evPs, evWs, evG, evGs, fSeq2, aft, fNext, fRet, fIf, fAsg, fAsgL, fAsgT, fAsgD, fPar, fWv, fWl, fW0, setWs, wiS, fLit, fVar, Pf.slotAt, varS, fBin, fNeg, negD, fCmp, fChain, fAnd, fOr, fNot, fBool, boolS, fTest, fIte, fAt, fAtD, fCut, fPart, fNoPart, fOs, fOs0, fFn, fVs, fVs0, fTup, fFresh, fDisp, fTupOf, fListOf, fIsi, fCall, fCallW, fVal, fSlotC, isSet, Pf.rs, Pf.rsS, Pf.rsV, rsAll, rsD, keyD, datS, datsS, setS_s, setS_dv, setS_ol, setS_dat, setS_none, setS_olst, setS_rlst, setS_fdic, setS_odic, gN, gT, gs0, gsC, lenIs, binD, addD, subD, mulD, fdivD, modD, cmpD, ordD, isD, isN, isiD, at_l, at_t, fn_lenL, fn_lenT, fn_max2, fn_abs, fn_int, fn_intb, intV, seq_l, seq_t, lstV, fApp, fAugD, fAugI, olS, odS, odH, inS, getElem_s, a1, e1]
    · by_cases z : r[k] = some t
      · rw [if_pos z] at hP ⊢
        exact .inr ⟨_, rfl, by rw [hP]; rfl, some (.int (k : Int)), rfl⟩
      · rw [if_neg z] at hP ⊢
        exact .inl ⟨rfl, by rw [hP, show r.length - (j + 1) = k by omega], some (.int (k : Int)), rfl⟩
  have hbl : (rngB ((r.length : Int) - 1) r.length).length = r.length := by unfold rngB; rw [List.length_map, List.length_range]
  rw [hbl, Nat.zero_add, Nat.sub_self] at h2
  have hI : evI (Y n) (.rngB (.cons (.val (.bin .sub (.val (.fn .len (.cons (.slot 0) .nil))) (.val (.lit (.int 1))))) (.cons (.val (.neg (.val (.lit (.int 1))))) (.cons (.val (.neg (.val (.lit (.int 1))))) .nil)))) [some (.dat (rd r)), some (.dat (.int (t : Int))), none] = some (rngB ((r.length : Int) - 1) r.length, [some (.dat (rd r)), some (.dat (.int (t : Int))), none]) :=
    rngB_ev (os := [.val (.dat (.int ((r.length : Int) - 1))), .val (.dat (.int (-1))), .val (.dat (.int (-1)))]) (lo := (r.length : Int) - 1) (m := -1) (by simp [evB, evS, evE, evL, evO, evOs, evEs, evT, evTs, evI, evC, evP, evDd, evPs, evWs, evG, evGs, fSeq2, aft, fNext, fRet, fIf, fAsg, fAsgL, fAsgT, fAsgD, fPar, fWv, fWl, fW0, setWs, wiS, fLit, fVar, Pf.slotAt, varS, fBin, fNeg, negD, fCmp, fChain, fAnd, fOr, fNot, fBool, boolS, fTest, fIte, fAt, fAtD, fCut, fPart, fNoPart, fOs, fOs0, fFn, fVs, fVs0, fTup, fFresh, fDisp, fTupOf, fListOf, fIsi, fCall, fCallW, fVal, fSlotC, isSet, Pf.rs, Pf.rsS, Pf.rsV, rsAll, rsD, keyD, datS, datsS, setS_s, setS_dv, setS_ol, setS_dat, setS_none, setS_olst, setS_rlst, setS_fdic, setS_odic, gN, gT, gs0, gsC, lenIs, binD, addD, subD, mulD, fdivD, modD, cmpD, ordD, isD, isN, isiD, at_l, at_t, fn_lenL, fn_lenT, fn_max2, fn_abs, fn_int, fn_intb, intV, seq_l, seq_t, lstV, fApp, fAugD, fAugI, olS, odS, odH, inS, getElem_s, fn_len_rd]) (by simp [evB, evS, evE, evL, evO, evOs, evEs, evT, evTs, evI, evC, evP, evDd, evPs, evWs, evG, evGs, fSeq2, aft, fNext, fRet, fIf, fAsg, fAsgL, fAsgT, fAsgD, fPar, fWv, fWl, fW0, setWs, wiS, fLit, fVar, Pf.slotAt, varS, fBin, fNeg, negD, fCmp, fChain, fAnd, fOr, fNot, fBool, boolS, fTest, fIte, fAt, fAtD, fCut, fPart, fNoPart, fOs, fOs0, fFn, fVs, fVs0, fTup, fFresh, fDisp, fTupOf, fListOf, fIsi, fCall, fCallW, fVal, fSlotC, isSet, Pf.rs, Pf.rsS, Pf.rsV, rsAll, rsD, keyD, datS, datsS, setS_s, setS_dv, setS_ol, setS_dat, setS_none, setS_olst, setS_rlst, setS_fdic, setS_odic, gN, gT, gs0, gsC, lenIs, binD, addD, subD, mulD, fdivD, modD, cmpD, ordD, isD, isN, isiD, at_l, at_t, fn_lenL, fn_lenT, fn_max2, fn_abs, fn_int, fn_intb, intV, seq_l, seq_t, lstV, fApp, fAugD, fAugI, olS, odS, odH, inS, getElem_s]) (by omega) (by omega) (by omega) (by decide) (by decide)
  rw [f_last_place]
  rcases h2 with ⟨rfl, hP, o2, rfl⟩ | ⟨v, rfl, hv, o2, rfl⟩
  · rw [List.take_zero] at hP
    refine fb_ret (en' := [some (.dat (rd r)), some (.dat (.int (t : Int))), o2.map SV.dat]) rfl (B_next (for_next hI h1) (B_ret ?_)) rfl
    rw [hP]
    simp [evB, evS, evE, evL, evO, evOs, evEs, evT, evTs, evI, evC, evP, evDd, evPs, evWs, evG, evGs, fSeq2, aft, fNext, fRet, fIf, fAsg, fAsgL, fAsgT, fAsgD, fPar, fWv, fWl, fW0, setWs, wiS, fLit, fVar, Pf.slotAt, varS, fBin, fNeg, negD, fCmp, fChain, fAnd, fOr, fNot, fBool, boolS, fTest, fIte, fAt, fAtD, fCut, fPart, fNoPart, fOs, fOs0, fFn, fVs, fVs0, fTup, fFresh, fDisp, fTupOf, fListOf, fIsi, fCall, fCallW, fVal, fSlotC, isSet, Pf.rs, Pf.rsS, Pf.rsV, rsAll, rsD, keyD, datS, datsS, setS_s, setS_dv, setS_ol, setS_dat, setS_none, setS_olst, setS_rlst, setS_fdic, setS_odic, gN, gT, gs0, gsC, lenIs, binD, addD, subD, mulD, fdivD, modD, cmpD, ordD, isD, isN, isiD, at_l, at_t, fn_lenL, fn_lenT, fn_max2, fn_abs, fn_int, fn_intb, intV, seq_l, seq_t, lstV, fApp, fAugD, fAugI, olS, odS, odH, inS, getElem_s]
    rfl
  · subst hv
    refine fb_ret (en' := [some (.dat (rd r)), some (.dat (.int (t : Int))), o2.map SV.dat]) rfl (B_ret (for_any hI h1)) rfl
theorem countP_od (t : Nat) : ∀ (r : Row), (r.map od).countP (fun y => PyData.eqv y (.int (t : Int))) = cnt r t := by
  intro r
  have key : ∀ (r : Row) (i : Nat), (r.map od).countP (fun y => PyData.eqv y (.int (t : Int))) = (posF t i r).length := by
    intro r
    induction r with
    | nil => intro i; rfl
    | cons x r ih =>
      intro i
      rw [List.map_cons, List.countP_cons, ih (i + 1), show posF t i (x :: r) = if x = some t then i :: posF t (i + 1) r else posF t (i + 1) r from rfl]
      have e := eqD_od x t
      have : PyData.eqv (od x) (.int (t : Int)) = decide (x = some t) := by
        unfold eqD at e
        rw [if_pos ⟨by cases x <;> rfl, rfl⟩] at e
        exact Option.some.inj e
      rw [this]
      by_cases z : x = some t
      · rw [if_pos z, decide_eq_true z, if_pos rfl, List.length_cons]
      · rw [if_neg z, decide_eq_false z, if_neg (by decide), Nat.add_zero]
  exact key r 0
theorem shD_od (n : Nat) (o : Option Nat) : shD n (od o) := by
  cases o
  · exact shD_none n
  · exact shD_int n _
theorem cnt_rd (r : Row) (t : Nat) : cntG (rd r) (.int (t : Int)) = some (.int ((cnt r t : Nat) : Int)) := by
  show (if shp (.list (r.map od)) = true ∧ shp (.int (t : Int)) = true then some (PyData.int (((r.map od).countP fun y => PyData.eqv y (.int (t : Int)) : Nat) : Int)) else none) = _
  rw [if_pos ⟨(shD_list (n := 0) fun d hd => by
    obtain ⟨o, _, rfl⟩ := List.mem_map.mp hd
    exact shD_od 0 o).shp (by decide), rfl⟩, countP_od]
theorem seq_rd (r : Row) : seqV (rd r) = some (r.map od) := rfl
theorem isL_rd (r : Row) : fCnt.isLst (rd r) = false := rfl
theorem can_follow_ok (n : Nat) {tp : Top} {r : Row} (h : r.length ≤ 10) {t : Nat} (ht : t < tp.length) : ((Y (n + 2)).f 4).2 [.dat (td tp), .dat (rd r), .dat (.int (t : Int))] = some (.bool (cf tp r t), [.dat (td tp), .dat (rd r), .dat (.int (t : Int))]) := by
  have a1 := atD_td ht
  have c1 := last_place_ok n h t
  have c2 := cnt_rd r t
  have hsq := seq_rd r
  have hisl := isL_rd r
  have hlr := fn_len_rd r
  rw [f_can_follow]
  unfold cf gok
  generalize (r.map od) = zs at *
  generalize hrd : rd r = R at *
  by_cases z : cnt r t < tm tp t
  · have z' : ¬ (tm tp t : Int) ≤ (cnt r t : Int) := by omega
    refine fb_ret (en' := [some (.dat (td tp)), some (.dat R), some (.dat (.int (t : Int))), some (.dat (.int (tm tp t : Int))), some (.dat (.int (le' tp t : Int))), some (.dat (.int (mo tp t : Int))), some (.dat (od (last r t)))]) rfl (B_next (en1 := [some (.dat (td tp)), some (.dat R), some (.dat (.int (t : Int))), some (.dat (.int (tm tp t : Int))), some (.dat (.int (le' tp t : Int))), some (.dat (.int (mo tp t : Int))), none]) ?_ (B_next (en1 := [some (.dat (td tp)), some (.dat R), some (.dat (.int (t : Int))), some (.dat (.int (tm tp t : Int))), some (.dat (.int (le' tp t : Int))), some (.dat (.int (mo tp t : Int))), some (.dat (od (last r t)))]) ?_ (B_next (en1 := [some (.dat (td tp)), some (.dat R), some (.dat (.int (t : Int))), some (.dat (.int (tm tp t : Int))), some (.dat (.int (le' tp t : Int))), some (.dat (.int (mo tp t : Int))), some (.dat (od (last r t)))]) ?_ (B_ret ?_)))) rfl
    · simp [evB, evS, evE, evL, evO, evOs, evEs, evT, evTs, evI, evC, evP, evDd, evPs, evWs, evG, evGs, fSeq2, aft, fNext, fRet, fIf, fAsg, fAsgL, fAsgT, fAsgD, fPar, fWv, fWl, fW0, setWs, wiS, fLit, fVar, Pf.slotAt, varS, fBin, fNeg, negD, fCmp, fChain, fAnd, fOr, fNot, fBool, boolS, fTest, fIte, fAt, fAtD, fCut, fPart, fNoPart, fOs, fOs0, fFn, fVs, fVs0, fTup, fFresh, fDisp, fTupOf, fListOf, fIsi, fCall, fCallW, fVal, fSlotC, isSet, Pf.rs, Pf.rsS, Pf.rsV, rsAll, rsD, keyD, datS, datsS, setS_s, setS_dv, setS_ol, setS_dat, setS_none, setS_olst, setS_rlst, setS_fdic, setS_odic, gN, gT, gs0, gsC, lenIs, binD, addD, subD, mulD, fdivD, modD, cmpD, ordD, isD, isN, isiD, at_l, at_t, fn_lenL, fn_lenT, fn_max2, fn_abs, fn_int, fn_intb, intV, seq_l, seq_t, lstV, fApp, fAugD, fAugI, olS, odS, odH, inS, getElem_s, List.replicate, a1]
    · simp [evB, evS, evE, evL, evO, evOs, evEs, evT, evTs, evI, evC, evP, evDd, evPs, evWs, evG, evGs, fSeq2, aft, fNext, fRet, fIf, fAsg, fAsgL, fAsgT, fAsgD, fPar, fWv, fWl, fW0, setWs, wiS, fLit, fVar, Pf.slotAt, varS, fBin, fNeg, negD, fCmp, fChain, fAnd, fOr, fNot, fBool, boolS, fTest, fIte, fAt, fAtD, fCut, fPart, fNoPart, fOs, fOs0, fFn, fVs, fVs0, fTup, fFresh, fDisp, fTupOf, fListOf, fIsi, fCall, fCallW, fVal, fSlotC, isSet, Pf.rs, Pf.rsS, Pf.rsV, rsAll, rsD, keyD, datS, datsS, setS_s, setS_dv, setS_ol, setS_dat, setS_none, setS_olst, setS_rlst, setS_fdic, setS_odic, gN, gT, gs0, gsC, lenIs, binD, addD, subD, mulD, fdivD, modD, cmpD, ordD, isD, isN, isiD, at_l, at_t, fn_lenL, fn_lenT, fn_max2, fn_abs, fn_int, fn_intb, intV, seq_l, seq_t, lstV, fApp, fAugD, fAugI, olS, odS, odH, inS, getElem_s, np_last_place, c1]
    · simp [evB, evS, evE, evL, evO, evOs, evEs, evT, evTs, evI, evC, evP, evDd, evPs, evWs, evG, evGs, fSeq2, aft, fNext, fRet, fIf, fAsg, fAsgL, fAsgT, fAsgD, fPar, fWv, fWl, fW0, setWs, wiS, fLit, fVar, Pf.slotAt, varS, fBin, fNeg, negD, fCmp, fChain, fAnd, fOr, fNot, fBool, boolS, fTest, fIte, fAt, fAtD, fCut, fPart, fNoPart, fOs, fOs0, fFn, fVs, fVs0, fTup, fFresh, fDisp, fTupOf, fListOf, fIsi, fCall, fCallW, fVal, fSlotC, isSet, Pf.rs, Pf.rsS, Pf.rsV, rsAll, rsD, keyD, datS, datsS, setS_s, setS_dv, setS_ol, setS_dat, setS_none, setS_olst, setS_rlst, setS_fdic, setS_odic, gN, gT, gs0, gsC, lenIs, binD, addD, subD, mulD, fdivD, modD, cmpD, ordD, isD, isN, isiD, at_l, at_t, fn_lenL, fn_lenT, fn_max2, fn_abs, fn_int, fn_intb, intV, seq_l, seq_t, lstV, fApp, fAugD, fAugI, olS, odS, odH, inS, getElem_s, fCntG, hsq, hisl, c2, z']
    · rw [decide_eq_true z]
      cases last r t with
      | none => simp [evB, evS, evE, evL, evO, evOs, evEs, evT, evTs, evI, evC, evP, evDd, evPs, evWs, evG, evGs, fSeq2, aft, fNext, fRet, fIf, fAsg, fAsgL, fAsgT, fAsgD, fPar, fWv, fWl, fW0, setWs, wiS, fLit, fVar, Pf.slotAt, varS, fBin, fNeg, negD, fCmp, fChain, fAnd, fOr, fNot, fBool, boolS, fTest, fIte, fAt, fAtD, fCut, fPart, fNoPart, fOs, fOs0, fFn, fVs, fVs0, fTup, fFresh, fDisp, fTupOf, fListOf, fIsi, fCall, fCallW, fVal, fSlotC, isSet, Pf.rs, Pf.rsS, Pf.rsV, rsAll, rsD, keyD, datS, datsS, setS_s, setS_dv, setS_ol, setS_dat, setS_none, setS_olst, setS_rlst, setS_fdic, setS_odic, gN, gT, gs0, gsC, lenIs, binD, addD, subD, mulD, fdivD, modD, cmpD, ordD, isD, isN, isiD, at_l, at_t, fn_lenL, fn_lenT, fn_max2, fn_abs, fn_int, fn_intb, intV, seq_l, seq_t, lstV, fApp, fAugD, fAugI, olS, odS, odH, inS, getElem_s, od]
      | some q =>
        by_cases y1 : (le' tp t : Int) ≤ (r.length : Int) - (q : Int)
        · by_cases y2 : (r.length : Int) - (q : Int) ≤ (mo tp t : Int)
          · simp [evB, evS, evE, evL, evO, evOs, evEs, evT, evTs, evI, evC, evP, evDd, evPs, evWs, evG, evGs, fSeq2, aft, fNext, fRet, fIf, fAsg, fAsgL, fAsgT, fAsgD, fPar, fWv, fWl, fW0, setWs, wiS, fLit, fVar, Pf.slotAt, varS, fBin, fNeg, negD, fCmp, fChain, fAnd, fOr, fNot, fBool, boolS, fTest, fIte, fAt, fAtD, fCut, fPart, fNoPart, fOs, fOs0, fFn, fVs, fVs0, fTup, fFresh, fDisp, fTupOf, fListOf, fIsi, fCall, fCallW, fVal, fSlotC, isSet, Pf.rs, Pf.rsS, Pf.rsV, rsAll, rsD, keyD, datS, datsS, setS_s, setS_dv, setS_ol, setS_dat, setS_none, setS_olst, setS_rlst, setS_fdic, setS_odic, gN, gT, gs0, gsC, lenIs, binD, addD, subD, mulD, fdivD, modD, cmpD, ordD, isD, isN, isiD, at_l, at_t, fn_lenL, fn_lenT, fn_max2, fn_abs, fn_int, fn_intb, intV, seq_l, seq_t, lstV, fApp, fAugD, fAugI, olS, odS, odH, inS, getElem_s, od, hlr, y1, y2]
          · simp [evB, evS, evE, evL, evO, evOs, evEs, evT, evTs, evI, evC, evP, evDd, evPs, evWs, evG, evGs, fSeq2, aft, fNext, fRet, fIf, fAsg, fAsgL, fAsgT, fAsgD, fPar, fWv, fWl, fW0, setWs, wiS, fLit, fVar, Pf.slotAt, varS, fBin, fNeg, negD, fCmp, fChain, fAnd, fOr, fNot, fBool, boolS, fTest, fIte, fAt, fAtD, fCut, fPart, fNoPart, fOs, fOs0, fFn, fVs, fVs0, fTup, fFresh, fDisp, fTupOf, fListOf, fIsi, fCall, fCallW, fVal, fSlotC, isSet, Pf.rs, Pf.rsS, Pf.rsV, rsAll, rsD, keyD, datS, datsS, setS_s, setS_dv, setS_ol, setS_dat, setS_none, setS_olst, setS_rlst, setS_fdic, setS_odic, gN, gT, gs0, gsC, lenIs, binD, addD, subD, mulD, fdivD, modD, cmpD, ordD, isD, isN, isiD, at_l, at_t, fn_lenL, fn_lenT, fn_max2, fn_abs, fn_int, fn_intb, intV, seq_l, seq_t, lstV, fApp, fAugD, fAugI, olS, odS, odH, inS, getElem_s, od, hlr, y1, y2]
        · simp [evB, evS, evE, evL, evO, evOs, evEs, evT, evTs, evI, evC, evP, evDd, evPs, evWs, evG, evGs, fSeq2, aft, fNext, fRet, fIf, fAsg, fAsgL, fAsgT, fAsgD, fPar, fWv, fWl, fW0, setWs, wiS, fLit, fVar, Pf.slotAt, varS, fBin, fNeg, negD, fCmp, fChain, fAnd, fOr, fNot, fBool, boolS, fTest, fIte, fAt, fAtD, fCut, fPart, fNoPart, fOs, fOs0, fFn, fVs, fVs0, fTup, fFresh, fDisp, fTupOf, fListOf, fIsi, fCall, fCallW, fVal, fSlotC, isSet, Pf.rs, Pf.rsS, Pf.rsV, rsAll, rsD, keyD, datS, datsS, setS_s, setS_dv, setS_ol, setS_dat, setS_none, setS_olst, setS_rlst, setS_fdic, setS_odic, gN, gT, gs0, gsC, lenIs, binD, addD, subD, mulD, fdivD, modD, cmpD, ordD, isD, isN, isiD, at_l, at_t, fn_lenL, fn_lenT, fn_max2, fn_abs, fn_int, fn_intb, intV, seq_l, seq_t, lstV, fApp, fAugD, fAugI, olS, odS, odH, inS, getElem_s, od, hlr, y1]
  · have z' : (tm tp t : Int) ≤ (cnt r t : Int) := by omega
    rw [decide_eq_false z, Bool.false_and]
    refine fb_ret (en' := [some (.dat (td tp)), some (.dat R), some (.dat (.int (t : Int))), some (.dat (.int (tm tp t : Int))), some (.dat (.int (le' tp t : Int))), some (.dat (.int (mo tp t : Int))), some (.dat (od (last r t)))]) rfl (B_next (en1 := [some (.dat (td tp)), some (.dat R), some (.dat (.int (t : Int))), some (.dat (.int (tm tp t : Int))), some (.dat (.int (le' tp t : Int))), some (.dat (.int (mo tp t : Int))), none]) ?_ (B_next (en1 := [some (.dat (td tp)), some (.dat R), some (.dat (.int (t : Int))), some (.dat (.int (tm tp t : Int))), some (.dat (.int (le' tp t : Int))), some (.dat (.int (mo tp t : Int))), some (.dat (od (last r t)))]) ?_ (B_ret ?_))) rfl
    · simp [evB, evS, evE, evL, evO, evOs, evEs, evT, evTs, evI, evC, evP, evDd, evPs, evWs, evG, evGs, fSeq2, aft, fNext, fRet, fIf, fAsg, fAsgL, fAsgT, fAsgD, fPar, fWv, fWl, fW0, setWs, wiS, fLit, fVar, Pf.slotAt, varS, fBin, fNeg, negD, fCmp, fChain, fAnd, fOr, fNot, fBool, boolS, fTest, fIte, fAt, fAtD, fCut, fPart, fNoPart, fOs, fOs0, fFn, fVs, fVs0, fTup, fFresh, fDisp, fTupOf, fListOf, fIsi, fCall, fCallW, fVal, fSlotC, isSet, Pf.rs, Pf.rsS, Pf.rsV, rsAll, rsD, keyD, datS, datsS, setS_s, setS_dv, setS_ol, setS_dat, setS_none, setS_olst, setS_rlst, setS_fdic, setS_odic, gN, gT, gs0, gsC, lenIs, binD, addD, subD, mulD, fdivD, modD, cmpD, ordD, isD, isN, isiD, at_l, at_t, fn_lenL, fn_lenT, fn_max2, fn_abs, fn_int, fn_intb, intV, seq_l, seq_t, lstV, fApp, fAugD, fAugI, olS, odS, odH, inS, getElem_s, List.replicate, a1]
    · simp [evB, evS, evE, evL, evO, evOs, evEs, evT, evTs, evI, evC, evP, evDd, evPs, evWs, evG, evGs, fSeq2, aft, fNext, fRet, fIf, fAsg, fAsgL, fAsgT, fAsgD, fPar, fWv, fWl, fW0, setWs, wiS, fLit, fVar, Pf.slotAt, varS, fBin, fNeg, negD, fCmp, fChain, fAnd, fOr, fNot, fBool, boolS, fTest, fIte, fAt, fAtD, fCut, fPart, fNoPart, fOs, fOs0, fFn, fVs, fVs0, fTup, fFresh, fDisp, fTupOf, fListOf, fIsi, fCall, fCallW, fVal, fSlotC, isSet, Pf.rs, Pf.rsS, Pf.rsV, rsAll, rsD, keyD, datS, datsS, setS_s, setS_dv, setS_ol, setS_dat, setS_none, setS_olst, setS_rlst, setS_fdic, setS_odic, gN, gT, gs0, gsC, lenIs, binD, addD, subD, mulD, fdivD, modD, cmpD, ordD, isD, isN, isiD, at_l, at_t, fn_lenL, fn_lenT, fn_max2, fn_abs, fn_int, fn_intb, intV, seq_l, seq_t, lstV, fApp, fAugD, fAugI, olS, odS, odH, inS, getElem_s, np_last_place, c1]
    · simp [evB, evS, evE, evL, evO, evOs, evEs, evT, evTs, evI, evC, evP, evDd, evPs, evWs, evG, evGs, fSeq2, aft, fNext, fRet, fIf, fAsg, fAsgL, fAsgT, fAsgD, fPar, fWv, fWl, fW0, setWs, wiS, fLit, fVar, Pf.slotAt, varS, fBin, fNeg, negD, fCmp, fChain, fAnd, fOr, fNot, fBool, boolS, fTest, fIte, fAt, fAtD, fCut, fPart, fNoPart, fOs, fOs0, fFn, fVs, fVs0, fTup, fFresh, fDisp, fTupOf, fListOf, fIsi, fCall, fCallW, fVal, fSlotC, isSet, Pf.rs, Pf.rsS, Pf.rsV, rsAll, rsD, keyD, datS, datsS, setS_s, setS_dv, setS_ol, setS_dat, setS_none, setS_olst, setS_rlst, setS_fdic, setS_odic, gN, gT, gs0, gsC, lenIs, binD, addD, subD, mulD, fdivD, modD, cmpD, ordD, isD, isN, isiD, at_l, at_t, fn_lenL, fn_lenT, fn_max2, fn_abs, fn_int, fn_intb, intV, seq_l, seq_t, lstV, fApp, fAugD, fAugI, olS, odS, odH, inS, getElem_s, fCntG, hsq, hisl, c2, z']
theorem could_follow_ok (n : Nat) {tp : Top} {r : Row} (h : r.length ≤ 10) (ht : tp.length ≤ 3) : ((Y (n + 3)).f 5).2 [.dat (td tp), .dat (rd r)] = some (.tuple (nl ((List.range tp.length).filter (cf tp r))), [.dat (td tp), .dat (rd r)]) := by
  have hcomp := comp_map (vs := [2]) (bd := evG (.name 2)) (cond := evC (Y (n + 2)) c_could_follow_1c) (elt := evE (Y (n + 2)) c_could_follow_1e) (f := fun i : Nat => PyData.int (i : Int)) (g := fun i : Nat => PyData.int (i : Int)) (p := cf tp r) (en := [some (.dat (td tp)), some (.dat (rd r)), none]) (List.range tp.length) fun k hk => by
    have hk := List.mem_range.mp hk
    have c1 := can_follow_ok n h hk
    generalize cf tp r k = b at *
    refine ⟨[some (.dat (td tp)), some (.dat (rd r)), some (.dat (.int (k : Int)))], [some (.dat (td tp)), some (.dat (rd r)), some (.dat (.int (k : Int)))], rfl, ?_, ?_⟩
    · simp [c_could_follow_1c, evB, evS, evE, evL, evO, evOs, evEs, evT, evTs, evI, evC, evP, evDd, evPs, evWs, evG, evGs, fSeq2, aft, fNext, fRet, fIf, fAsg, fAsgL, fAsgT, fAsgD, fPar, fWv, fWl, fW0, setWs, wiS, fLit, fVar, Pf.slotAt, varS, fBin, fNeg, negD, fCmp, fChain, fAnd, fOr, fNot, fBool, boolS, fTest, fIte, fAt, fAtD, fCut, fPart, fNoPart, fOs, fOs0, fFn, fVs, fVs0, fTup, fFresh, fDisp, fTupOf, fListOf, fIsi, fCall, fCallW, fVal, fSlotC, isSet, Pf.rs, Pf.rsS, Pf.rsV, rsAll, rsD, keyD, datS, datsS, setS_s, setS_dv, setS_ol, setS_dat, setS_none, setS_olst, setS_rlst, setS_fdic, setS_odic, gN, gT, gs0, gsC, lenIs, binD, addD, subD, mulD, fdivD, modD, cmpD, ordD, isD, isN, isiD, at_l, at_t, fn_lenL, fn_lenT, fn_max2, fn_abs, fn_int, fn_intb, intV, seq_l, seq_t, lstV, fApp, fAugD, fAugI, olS, odS, odH, inS, getElem_s, np_can_follow, c1]
    · split
      · exact ⟨[some (.dat (td tp)), some (.dat (rd r)), some (.dat (.int (k : Int)))], by simp [c_could_follow_1e, evB, evS, evE, evL, evO, evOs, evEs, evT, evTs, evI, evC, evP, evDd, evPs, evWs, evG, evGs, fSeq2, aft, fNext, fRet, fIf, fAsg, fAsgL, fAsgT, fAsgD, fPar, fWv, fWl, fW0, setWs, wiS, fLit, fVar, Pf.slotAt, varS, fBin, fNeg, negD, fCmp, fChain, fAnd, fOr, fNot, fBool, boolS, fTest, fIte, fAt, fAtD, fCut, fPart, fNoPart, fOs, fOs0, fFn, fVs, fVs0, fTup, fFresh, fDisp, fTupOf, fListOf, fIsi, fCall, fCallW, fVal, fSlotC, isSet, Pf.rs, Pf.rsS, Pf.rsV, rsAll, rsD, keyD, datS, datsS, setS_s, setS_dv, setS_ol, setS_dat, setS_none, setS_olst, setS_rlst, setS_fdic, setS_odic, gN, gT, gs0, gsC, lenIs, binD, addD, subD, mulD, fdivD, modD, cmpD, ordD, isD, isN, isiD, at_l, at_t, fn_lenL, fn_lenT, fn_max2, fn_abs, fn_int, fn_intb, intV, seq_l, seq_t, lstV, fApp, fAugD, fAugI, olS, odS, odH, inS, getElem_s], rfl⟩
      · rfl
  have hc : evL (Y (n + 2)) c_could_follow_1 [some (.dat (td tp)), some (.dat (rd r)), none] = some (nl ((List.range tp.length).filter (cf tp r)), [some (.dat (td tp)), some (.dat (rd r)), none]) := by
    unfold c_could_follow_1
    refine (comp_ev (ds := rngD 0 tp.length) (en1 := [some (.dat (td tp)), some (.dat (rd r)), none]) (en2 := [some (.dat (td tp)), some (.dat (rd r)), none]) (r := nl ((List.range tp.length).filter (cf tp r))) ?_ ?_ ?_).trans rfl
    · exact rng1_ev (os := [.val (.dat (.int (tp.length : Int)))]) (m := (tp.length : Int)) (by simp [evB, evS, evE, evL, evO, evOs, evEs, evT, evTs, evI, evC, evP, evDd, evPs, evWs, evG, evGs, fSeq2, aft, fNext, fRet, fIf, fAsg, fAsgL, fAsgT, fAsgD, fPar, fWv, fWl, fW0, setWs, wiS, fLit, fVar, Pf.slotAt, varS, fBin, fNeg, negD, fCmp, fChain, fAnd, fOr, fNot, fBool, boolS, fTest, fIte, fAt, fAtD, fCut, fPart, fNoPart, fOs, fOs0, fFn, fVs, fVs0, fTup, fFresh, fDisp, fTupOf, fListOf, fIsi, fCall, fCallW, fVal, fSlotC, isSet, Pf.rs, Pf.rsS, Pf.rsV, rsAll, rsD, keyD, datS, datsS, setS_s, setS_dv, setS_ol, setS_dat, setS_none, setS_olst, setS_rlst, setS_fdic, setS_odic, gN, gT, gs0, gsC, lenIs, binD, addD, subD, mulD, fdivD, modD, cmpD, ordD, isD, isN, isiD, at_l, at_t, fn_lenL, fn_lenT, fn_max2, fn_abs, fn_int, fn_intb, intV, seq_l, seq_t, lstV, fApp, fAugD, fAugI, olS, odS, odH, inS, getElem_s, fn_len_td]) (by simp [evB, evS, evE, evL, evO, evOs, evEs, evT, evTs, evI, evC, evP, evDd, evPs, evWs, evG, evGs, fSeq2, aft, fNext, fRet, fIf, fAsg, fAsgL, fAsgT, fAsgD, fPar, fWv, fWl, fW0, setWs, wiS, fLit, fVar, Pf.slotAt, varS, fBin, fNeg, negD, fCmp, fChain, fAnd, fOr, fNot, fBool, boolS, fTest, fIte, fAt, fAtD, fCut, fPart, fNoPart, fOs, fOs0, fFn, fVs, fVs0, fTup, fFresh, fDisp, fTupOf, fListOf, fIsi, fCall, fCallW, fVal, fSlotC, isSet, Pf.rs, Pf.rsS, Pf.rsV, rsAll, rsD, keyD, datS, datsS, setS_s, setS_dv, setS_ol, setS_dat, setS_none, setS_olst, setS_rlst, setS_fdic, setS_odic, gN, gT, gs0, gsC, lenIs, binD, addD, subD, mulD, fdivD, modD, cmpD, ordD, isD, isN, isiD, at_l, at_t, fn_lenL, fn_lenT, fn_max2, fn_abs, fn_int, fn_intb, intV, seq_l, seq_t, lstV, fApp, fAugD, fAugI, olS, odS, odH, inS, getElem_s]) rfl (by omega)
    · rw [rngD_len]; unfold lim; omega
    · rw [rngD_map]; exact hcomp
  rw [f_could_follow]
  generalize nl ((List.range tp.length).filter (cf tp r)) = xs at *
  simp [fBody, b_could_follow, evB, evS, evE, evL, evO, evOs, evEs, evT, evTs, evI, evC, evP, evDd, evPs, evWs, evG, evGs, fSeq2, aft, fNext, fRet, fIf, fAsg, fAsgL, fAsgT, fAsgD, fPar, fWv, fWl, fW0, setWs, wiS, fLit, fVar, Pf.slotAt, varS, fBin, fNeg, negD, fCmp, fChain, fAnd, fOr, fNot, fBool, boolS, fTest, fIte, fAt, fAtD, fCut, fPart, fNoPart, fOs, fOs0, fFn, fVs, fVs0, fTup, fFresh, fDisp, fTupOf, fListOf, fIsi, fCall, fCallW, fVal, fSlotC, isSet, Pf.rs, Pf.rsS, Pf.rsV, rsAll, rsD, keyD, datS, datsS, setS_s, setS_dv, setS_ol, setS_dat, setS_none, setS_olst, setS_rlst, setS_fdic, setS_odic, gN, gT, gs0, gsC, lenIs, binD, addD, subD, mulD, fdivD, modD, cmpD, ordD, isD, isN, isiD, at_l, at_t, fn_lenL, fn_lenT, fn_max2, fn_abs, fn_int, fn_intb, intV, seq_l, seq_t, lstV, fApp, fAugD, fAugI, olS, odS, odH, inS, getElem_s, hc, endV, outs, ownB]
theorem is_lost_ok (n : Nat) {tp : Top} {r : Row} (h : r.length ≤ 10) (ht : tp.length ≤ 3) : ((Y (n + 2)).f 6).2 [.dat (td tp), .dat (rd r)] = some (.bool (lost tp r), [.dat (td tp), .dat (rd r)]) := by
  let E0 : Option D → Option D → Option D → Option D → Option D → En := fun o2 o3 o4 o5 o6 => [some (.dat (td tp)), some (.dat (rd r)), o2.map SV.dat, o3.map SV.dat, o4.map SV.dat, o5.map SV.dat, o6.map SV.dat]
  obtain ⟨fl, en', h1, h2⟩ := loop_ret (bd := evG (.name 2)) (body := evB (Y (n + 1)) b_is_lost_1) (P := fun i en => ((List.range i).any (lost1 tp r)) = false ∧ ∃ o2 o3 o4 o5 o6, en = E0 o2 o3 o4 o5 o6) (R := fun v en => v = .bool true ∧ lost tp r = true ∧ ∃ o2 o3 o4 o5 o6, en = E0 o2 o3 o4 o5 o6) (rngD 0 tp.length) 0 (E0 none none none none none) ⟨rfl, none, none, none, none, none, rfl⟩ fun j d en hd hP => by
    obtain ⟨hP, o2, o3, o4, o5, o6, rfl⟩ := hP
    obtain ⟨hj, rfl⟩ := rngD_at hd
    rw [Nat.zero_add] at hP ⊢
    rw [Int.zero_add]
    have a1 := atD_td hj
    have c1 := last_place_ok n h j
    have c2 := cnt_rd r j
    have hsq := seq_rd r
    have hisl := isL_rd r
    have hlr := fn_len_rd r
    have key : evB (Y (n + 1)) b_is_lost_1 (E0 (some (.int (j : Int))) o3 o4 o5 o6) = some (if lost1 tp r j = true then .ret (.bool true) else .next, E0 (some (.int (j : Int))) (some (.int (tm tp j : Int))) (some (.int (le' tp j : Int))) (some (.int (mo tp j : Int))) (some (od (last r j)))) := by
      refine B_next (en1 := E0 (some (.int (j : Int))) (some (.int (tm tp j : Int))) (some (.int (le' tp j : Int))) (some (.int (mo tp j : Int))) o6) ?_ (B_next (en1 := E0 (some (.int (j : Int))) (some (.int (tm tp j : Int))) (some (.int (le' tp j : Int))) (some (.int (mo tp j : Int))) (some (od (last r j)))) ?_ ?_)
      · simp [evB, evS, evE, evL, evO, evOs, evEs, evT, evTs, evI, evC, evP, evDd, evPs, evWs, evG, evGs, fSeq2, aft, fNext, fRet, fIf, fAsg, fAsgL, fAsgT, fAsgD, fPar, fWv, fWl, fW0, setWs, wiS, fLit, fVar, Pf.slotAt, varS, fBin, fNeg, negD, fCmp, fChain, fAnd, fOr, fNot, fBool, boolS, fTest, fIte, fAt, fAtD, fCut, fPart, fNoPart, fOs, fOs0, fFn, fVs, fVs0, fTup, fFresh, fDisp, fTupOf, fListOf, fIsi, fCall, fCallW, fVal, fSlotC, isSet, Pf.rs, Pf.rsS, Pf.rsV, rsAll, rsD, keyD, datS, datsS, setS_s, setS_dv, setS_ol, setS_dat, setS_none, setS_olst, setS_rlst, setS_fdic, setS_odic, gN, gT, gs0, gsC, lenIs, binD, addD, subD, mulD, fdivD, modD, cmpD, ordD, isD, isN, isiD, at_l, at_t, fn_lenL, fn_lenT, fn_max2, fn_abs, fn_int, fn_intb, intV, seq_l, seq_t, lstV, fApp, fAugD, fAugI, olS, odS, odH, inS, getElem_s, E0, a1]
      · simp [evB, evS, evE, evL, evO, evOs, evEs, evT, evTs, evI, evC, evP, evDd, evPs, evWs, evG, evGs, fSeq2, aft, fNext, fRet, fIf, fAsg, fAsgL, fAsgT, fAsgD, fPar, fWv, fWl, fW0, setWs, wiS, fLit, fVar, Pf.slotAt, varS, fBin, fNeg, negD, fCmp, fChain, fAnd, fOr, fNot, fBool, boolS, fTest, fIte, fAt, fAtD, fCut, fPart, fNoPart, fOs, fOs0, fFn, fVs, fVs0, fTup, fFresh, fDisp, fTupOf, fListOf, fIsi, fCall, fCallW, fVal, fSlotC, isSet, Pf.rs, Pf.rsS, Pf.rsV, rsAll, rsD, keyD, datS, datsS, setS_s, setS_dv, setS_ol, setS_dat, setS_none, setS_olst, setS_rlst, setS_fdic, setS_odic, gN, gT, gs0, gsC, lenIs, binD, addD, subD, mulD, fdivD, modD, cmpD, ordD, isD, isN, isiD, at_l, at_t, fn_lenL, fn_lenT, fn_max2, fn_abs, fn_int, fn_intb, intV, seq_l, seq_t, lstV, fApp, fAugD, fAugI, olS, odS, odH, inS, getElem_s, E0, np_last_place, c1]
      · unfold lost1
        generalize (r.map od) = zs at *
        cases hq : last r j with
        | none => simp [evB, evS, evE, evL, evO, evOs, evEs, evT, evTs, evI, evC, evP, evDd, evPs, evWs, evG, evGs, fSeq2, aft, fNext, fRet, fIf, fAsg, fAsgL, fAsgT, fAsgD, fPar, fWv, fWl, fW0, setWs, wiS, fLit, fVar, Pf.slotAt, varS, fBin, fNeg, negD, fCmp, fChain, fAnd, fOr, fNot, fBool, boolS, fTest, fIte, fAt, fAtD, fCut, fPart, fNoPart, fOs, fOs0, fFn, fVs, fVs0, fTup, fFresh, fDisp, fTupOf, fListOf, fIsi, fCall, fCallW, fVal, fSlotC, isSet, Pf.rs, Pf.rsS, Pf.rsV, rsAll, rsD, keyD, datS, datsS, setS_s, setS_dv, setS_ol, setS_dat, setS_none, setS_olst, setS_rlst, setS_fdic, setS_odic, gN, gT, gs0, gsC, lenIs, binD, addD, subD, mulD, fdivD, modD, cmpD, ordD, isD, isN, isiD, at_l, at_t, fn_lenL, fn_lenT, fn_max2, fn_abs, fn_int, fn_intb, intV, seq_l, seq_t, lstV, fApp, fAugD, fAugI, olS, odS, odH, inS, getElem_s, E0, od]
        | some q =>
          by_cases y1 : cnt r j < tm tp j
          · have y1' : (cnt r j : Int) < (tm tp j : Int) := by omega
            by_cases y2 : (mo tp j : Int) < (r.length : Int) - (q : Int)
            · simp [evB, evS, evE, evL, evO, evOs, evEs, evT, evTs, evI, evC, evP, evDd, evPs, evWs, evG, evGs, fSeq2, aft, fNext, fRet, fIf, fAsg, fAsgL, fAsgT, fAsgD, fPar, fWv, fWl, fW0, setWs, wiS, fLit, fVar, Pf.slotAt, varS, fBin, fNeg, negD, fCmp, fChain, fAnd, fOr, fNot, fBool, boolS, fTest, fIte, fAt, fAtD, fCut, fPart, fNoPart, fOs, fOs0, fFn, fVs, fVs0, fTup, fFresh, fDisp, fTupOf, fListOf, fIsi, fCall, fCallW, fVal, fSlotC, isSet, Pf.rs, Pf.rsS, Pf.rsV, rsAll, rsD, keyD, datS, datsS, setS_s, setS_dv, setS_ol, setS_dat, setS_none, setS_olst, setS_rlst, setS_fdic, setS_odic, gN, gT, gs0, gsC, lenIs, binD, addD, subD, mulD, fdivD, modD, cmpD, ordD, isD, isN, isiD, at_l, at_t, fn_lenL, fn_lenT, fn_max2, fn_abs, fn_int, fn_intb, intV, seq_l, seq_t, lstV, fApp, fAugD, fAugI, olS, odS, odH, inS, getElem_s, E0, od, fCntG, hsq, hisl, c2, hlr, y1, y1', y2]
            · simp [evB, evS, evE, evL, evO, evOs, evEs, evT, evTs, evI, evC, evP, evDd, evPs, evWs, evG, evGs, fSeq2, aft, fNext, fRet, fIf, fAsg, fAsgL, fAsgT, fAsgD, fPar, fWv, fWl, fW0, setWs, wiS, fLit, fVar, Pf.slotAt, varS, fBin, fNeg, negD, fCmp, fChain, fAnd, fOr, fNot, fBool, boolS, fTest, fIte, fAt, fAtD, fCut, fPart, fNoPart, fOs, fOs0, fFn, fVs, fVs0, fTup, fFresh, fDisp, fTupOf, fListOf, fIsi, fCall, fCallW, fVal, fSlotC, isSet, Pf.rs, Pf.rsS, Pf.rsV, rsAll, rsD, keyD, datS, datsS, setS_s, setS_dv, setS_ol, setS_dat, setS_none, setS_olst, setS_rlst, setS_fdic, setS_odic, gN, gT, gs0, gsC, lenIs, binD, addD, subD, mulD, fdivD, modD, cmpD, ordD, isD, isN, isiD, at_l, at_t, fn_lenL, fn_lenT, fn_max2, fn_abs, fn_int, fn_intb, intV, seq_l, seq_t, lstV, fApp, fAugD, fAugI, olS, odS, odH, inS, getElem_s, E0, od, fCntG, hsq, hisl, c2, hlr, y1, y1', y2]
          · have y1' : ¬ (cnt r j : Int) < (tm tp j : Int) := by omega
            simp [evB, evS, evE, evL, evO, evOs, evEs, evT, evTs, evI, evC, evP, evDd, evPs, evWs, evG, evGs, fSeq2, aft, fNext, fRet, fIf, fAsg, fAsgL, fAsgT, fAsgD, fPar, fWv, fWl, fW0, setWs, wiS, fLit, fVar, Pf.slotAt, varS, fBin, fNeg, negD, fCmp, fChain, fAnd, fOr, fNot, fBool, boolS, fTest, fIte, fAt, fAtD, fCut, fPart, fNoPart, fOs, fOs0, fFn, fVs, fVs0, fTup, fFresh, fDisp, fTupOf, fListOf, fIsi, fCall, fCallW, fVal, fSlotC, isSet, Pf.rs, Pf.rsS, Pf.rsV, rsAll, rsD, keyD, datS, datsS, setS_s, setS_dv, setS_ol, setS_dat, setS_none, setS_olst, setS_rlst, setS_fdic, setS_odic, gN, gT, gs0, gsC, lenIs, binD, addD, subD, mulD, fdivD, modD, cmpD, ordD, isD, isN, isiD, at_l, at_t, fn_lenL, fn_lenT, fn_max2, fn_abs, fn_int, fn_intb, intV, seq_l, seq_t, lstV, fApp, fAugD, fAugI, olS, odS, odH, inS, getElem_s, E0, od, fCntG, hsq, hisl, c2, hlr, y1, y1']
    refine ⟨_, _, _, gN_dv rfl, key, ?_⟩
    cases hl : lost1 tp r j with
    | true => exact .inr ⟨_, if_pos rfl, rfl, List.any_eq_true.mpr ⟨j, List.mem_range.mpr hj, hl⟩, _, _, _, _, _, rfl⟩
    | false =>
      refine .inl ⟨if_neg (by decide), ?_, _, _, _, _, _, rfl⟩
      rw [List.range_succ, List.any_append, hP]
      simp [hl]
  rw [rngD_len, Nat.zero_add] at h2
  have hI : evI (Y (n + 1)) (.rng1 (.cons (.val (.fn .len (.cons (.slot 0) .nil))) .nil)) (E0 none none none none none) = some (rngD 0 tp.length, E0 none none none none none) := rng1_ev (os := [.val (.dat (.int (tp.length : Int)))]) (m := (tp.length : Int)) (by simp [evB, evS, evE, evL, evO, evOs, evEs, evT, evTs, evI, evC, evP, evDd, evPs, evWs, evG, evGs, fSeq2, aft, fNext, fRet, fIf, fAsg, fAsgL, fAsgT, fAsgD, fPar, fWv, fWl, fW0, setWs, wiS, fLit, fVar, Pf.slotAt, varS, fBin, fNeg, negD, fCmp, fChain, fAnd, fOr, fNot, fBool, boolS, fTest, fIte, fAt, fAtD, fCut, fPart, fNoPart, fOs, fOs0, fFn, fVs, fVs0, fTup, fFresh, fDisp, fTupOf, fListOf, fIsi, fCall, fCallW, fVal, fSlotC, isSet, Pf.rs, Pf.rsS, Pf.rsV, rsAll, rsD, keyD, datS, datsS, setS_s, setS_dv, setS_ol, setS_dat, setS_none, setS_olst, setS_rlst, setS_fdic, setS_odic, gN, gT, gs0, gsC, lenIs, binD, addD, subD, mulD, fdivD, modD, cmpD, ordD, isD, isN, isiD, at_l, at_t, fn_lenL, fn_lenT, fn_max2, fn_abs, fn_int, fn_intb, intV, seq_l, seq_t, lstV, fApp, fAugD, fAugI, olS, odS, odH, inS, getElem_s, E0, fn_len_td]) (by simp [evB, evS, evE, evL, evO, evOs, evEs, evT, evTs, evI, evC, evP, evDd, evPs, evWs, evG, evGs, fSeq2, aft, fNext, fRet, fIf, fAsg, fAsgL, fAsgT, fAsgD, fPar, fWv, fWl, fW0, setWs, wiS, fLit, fVar, Pf.slotAt, varS, fBin, fNeg, negD, fCmp, fChain, fAnd, fOr, fNot, fBool, boolS, fTest, fIte, fAt, fAtD, fCut, fPart, fNoPart, fOs, fOs0, fFn, fVs, fVs0, fTup, fFresh, fDisp, fTupOf, fListOf, fIsi, fCall, fCallW, fVal, fSlotC, isSet, Pf.rs, Pf.rsS, Pf.rsV, rsAll, rsD, keyD, datS, datsS, setS_s, setS_dv, setS_ol, setS_dat, setS_none, setS_olst, setS_rlst, setS_fdic, setS_odic, gN, gT, gs0, gsC, lenIs, binD, addD, subD, mulD, fdivD, modD, cmpD, ordD, isD, isN, isiD, at_l, at_t, fn_lenL, fn_lenT, fn_max2, fn_abs, fn_int, fn_intb, intV, seq_l, seq_t, lstV, fApp, fAugD, fAugI, olS, odS, odH, inS, getElem_s]) rfl (by omega)
  rw [f_is_lost]
  rcases h2 with ⟨rfl, hP, o2, o3, o4, o5, o6, rfl⟩ | ⟨v, rfl, hv, hl, o2, o3, o4, o5, o6, rfl⟩
  · refine fb_ret (en' := E0 o2 o3 o4 o5 o6) rfl (B_next (for_next hI h1) (B_ret ?_)) rfl
    unfold lost
    rw [hP]
    simp [evB, evS, evE, evL, evO, evOs, evEs, evT, evTs, evI, evC, evP, evDd, evPs, evWs, evG, evGs, fSeq2, aft, fNext, fRet, fIf, fAsg, fAsgL, fAsgT, fAsgD, fPar, fWv, fWl, fW0, setWs, wiS, fLit, fVar, Pf.slotAt, varS, fBin, fNeg, negD, fCmp, fChain, fAnd, fOr, fNot, fBool, boolS, fTest, fIte, fAt, fAtD, fCut, fPart, fNoPart, fOs, fOs0, fFn, fVs, fVs0, fTup, fFresh, fDisp, fTupOf, fListOf, fIsi, fCall, fCallW, fVal, fSlotC, isSet, Pf.rs, Pf.rsS, Pf.rsV, rsAll, rsD, keyD, datS, datsS, setS_s, setS_dv, setS_ol, setS_dat, setS_none, setS_olst, setS_rlst, setS_fdic, setS_odic, gN, gT, gs0, gsC, lenIs, binD, addD, subD, mulD, fdivD, modD, cmpD, ordD, isD, isN, isiD, at_l, at_t, fn_lenL, fn_lenT, fn_max2, fn_abs, fn_int, fn_intb, intV, seq_l, seq_t, lstV, fApp, fAugD, fAugI, olS, odS, odH, inS, getElem_s, E0]
  · subst hv
    rw [hl]
    exact fb_ret (en' := E0 o2 o3 o4 o5 o6) rfl (B_ret (for_any hI h1)) rfl


theorem gaps_of_lv {lvm : Nat} (hm0 : 1 ≤ lvm) {r : Row} (h : r.length ≤ 10) (t : Nat) : ((Y lvm).f 2).2 [.dat (rd r), .dat (.int (t : Int))] = some (.tuple (il (gaps r t)), [.dat (rd r), .dat (.int (t : Int))]) :=
  lvl (P := fun lvm => ((Y lvm).f 2).2 [.dat (rd r), .dat (.int (t : Int))] = some (.tuple (il (gaps r t)), [.dat (rd r), .dat (.int (t : Int))])) 1 (fun n => gaps_of_ok n h t) lvm hm0
theorem last_place_lv {lvm : Nat} (hm0 : 1 ≤ lvm) {r : Row} (h : r.length ≤ 10) (t : Nat) : ((Y lvm).f 3).2 [.dat (rd r), .dat (.int (t : Int))] = some (od (last r t), [.dat (rd r), .dat (.int (t : Int))]) :=
  lvl (P := fun lvm => ((Y lvm).f 3).2 [.dat (rd r), .dat (.int (t : Int))] = some (od (last r t), [.dat (rd r), .dat (.int (t : Int))])) 1 (fun n => last_place_ok n h t) lvm hm0
theorem can_follow_lv {lvm : Nat} (hm0 : 2 ≤ lvm) {tp : Top} {r : Row} (h : r.length ≤ 10) {t : Nat} (ht : t < tp.length) : ((Y lvm).f 4).2 [.dat (td tp), .dat (rd r), .dat (.int (t : Int))] = some (.bool (cf tp r t), [.dat (td tp), .dat (rd r), .dat (.int (t : Int))]) :=
  lvl (P := fun lvm => ((Y lvm).f 4).2 [.dat (td tp), .dat (rd r), .dat (.int (t : Int))] = some (.bool (cf tp r t), [.dat (td tp), .dat (rd r), .dat (.int (t : Int))])) 2 (fun n => can_follow_ok n h ht) lvm hm0
theorem could_follow_lv {lvm : Nat} (hm0 : 3 ≤ lvm) {tp : Top} {r : Row} (h : r.length ≤ 10) (ht : tp.length ≤ 3) : ((Y lvm).f 5).2 [.dat (td tp), .dat (rd r)] = some (.tuple (nl ((List.range tp.length).filter (cf tp r))), [.dat (td tp), .dat (rd r)]) :=
  lvl (P := fun lvm => ((Y lvm).f 5).2 [.dat (td tp), .dat (rd r)] = some (.tuple (nl ((List.range tp.length).filter (cf tp r))), [.dat (td tp), .dat (rd r)])) 3 (fun n => could_follow_ok n h ht) lvm hm0
theorem is_lost_lv {lvm : Nat} (hm0 : 2 ≤ lvm) {tp : Top} {r : Row} (h : r.length ≤ 10) (ht : tp.length ≤ 3) : ((Y lvm).f 6).2 [.dat (td tp), .dat (rd r)] = some (.bool (lost tp r), [.dat (td tp), .dat (rd r)]) :=
  lvl (P := fun lvm => ((Y lvm).f 6).2 [.dat (td tp), .dat (rd r)] = some (.bool (lost tp r), [.dat (td tp), .dat (rd r)])) 2 (fun n => is_lost_ok n h ht) lvm hm0
end K31

set_option maxHeartbeats 4000000
namespace K31
open PySem L2 Pf
def ro (o : Option Row) : D := match o with
  | none => .none
  | some r => rd r
theorem all_bools {α : Type} (l : List α) (f : α → Bool) : fnD .all [.list (l.map fun t => PyData.bool (f t))] = some (.bool (l.all f)) := by
  show (boolsOf _).map _ = _
  have : boolsOf (l.map fun t => PyData.bool (f t)) = some (l.map f) := by
    induction l with
    | nil => rfl
    | cons x l ih => show (boolsOf (l.map fun t => PyData.bool (f t))).map _ = _; rw [ih]; rfl
  rw [this]
  show some (PyData.bool ((l.map f).all id)) = _
  rw [List.all_map]
  rfl
theorem add_rd {r : Row} (h : r.length ≤ 20) (o : Option Nat) : addD (rd r) (.tuple [od o]) = some (rd (r ++ [o])) := by
  show (if _ then some (PyData.tuple _) else none) = _
  rw [if_pos (by rw [List.length_map]; show r.length + 1 ≤ lim; unfold lim; omega)]
  unfold rd
  rw [List.map_append]
  rfl
theorem row_from_lv : ∀ (k : Nat) {lvm : Nat} (hm0 : k + 4 ≤ lvm) {tp : Top} {r : Row} (ht : tp.length ≤ 3) {p : Nat} (hp : p = r.length + k) (h10 : p ≤ 10), ((Y lvm).f 7).2 [.dat (td tp), .dat (.int (p : Int)), .dat (rd r)] = some (ro (rf tp k r), [.dat (td tp), .dat (.int (p : Int)), .dat (rd r)])
  | 0, lvm, hm0, tp, r, ht, p, hp, h10 => by
    obtain ⟨m, rfl⟩ : ∃ m, lvm = m + 1 := ⟨lvm - 1, by omega⟩
    have hlr := fn_len_rd r
    have e0 : eqD (.int (r.length : Int)) (.int (p : Int)) = some true := by rw [eqD_int, decide_eq_true (by omega)]
    have hsq := seq_rd r
    have hisl := isL_rd r
    have hcomp := comp_map (vs := [5]) (bd := evG (.name 5)) (cond := evC (Y m) c_row_from_1c) (elt := evE (Y m) c_row_from_1e) (f := fun i : Nat => PyData.int (i : Int)) (g := fun t : Nat => PyData.bool (decide (cnt r t = tm tp t))) (p := fun _ => true) (en := [some (.dat (td tp)), some (.dat (.int (p : Int))), some (.dat (rd r)), none, none, none]) (List.range tp.length) fun t hk => by
      have hk := List.mem_range.mp hk
      have c2 := cnt_rd r t
      have a1 := atD_td hk
      have e1 := eqD_int (cnt r t : Int) (tm tp t : Int)
      have e2 : decide ((cnt r t : Int) = (tm tp t : Int)) = decide (cnt r t = tm tp t) := decide_eq_decide.mpr (by omega)
      rw [e2] at e1
      generalize decide (cnt r t = tm tp t) = b at *
      refine ⟨[some (.dat (td tp)), some (.dat (.int (p : Int))), some (.dat (rd r)), none, none, some (.dat (.int (t : Int)))], [some (.dat (td tp)), some (.dat (.int (p : Int))), some (.dat (rd r)), none, none, some (.dat (.int (t : Int)))], rfl, rfl, ?_⟩
      rw [if_pos rfl]
      refine ⟨[some (.dat (td tp)), some (.dat (.int (p : Int))), some (.dat (rd r)), none, none, some (.dat (.int (t : Int)))], ?_, rfl⟩
      generalize (r.map od) = zs at *
      simp [c_row_from_1e, evB, evS, evE, evL, evO, evOs, evEs, evT, evTs, evI, evC, evP, evDd, evPs, evWs, evG, evGs, fSeq2, aft, fNext, fRet, fIf, fAsg, fAsgL, fAsgT, fAsgD, fPar, fWv, fWl, fW0, setWs, wiS, fLit, fVar, Pf.slotAt, varS, fBin, fNeg, negD, fCmp, fChain, fAnd, fOr, fNot, fBool, boolS, fTest, fIte, fAt, fAtD, fCut, fPart, fNoPart, fOs, fOs0, fFn, fVs, fVs0, fTup, fFresh, fDisp, fTupOf, fListOf, fIsi, fCall, fCallW, fVal, fSlotC, isSet, Pf.rs, Pf.rsS, Pf.rsV, rsAll, rsD, keyD, datS, datsS, setS_s, setS_dv, setS_ol, setS_dat, setS_none, setS_olst, setS_rlst, setS_fdic, setS_odic, gN, gT, gs0, gsC, lenIs, binD, addD, subD, mulD, fdivD, modD, cmpD, ordD, isD, isN, isiD, at_l, at_t, fn_lenL, fn_lenT, fn_max2, fn_abs, fn_int, fn_intb, intV, seq_l, seq_t, lstV, fApp, fAugD, fAugI, olS, odS, odH, inS, getElem_s, fCntG, hsq, hisl, c2, a1, at0, e1]
    rw [List.filter_eq_self.mpr fun _ _ => rfl] at hcomp
    have hc : evL (Y m) c_row_from_1 [some (.dat (td tp)), some (.dat (.int (p : Int))), some (.dat (rd r)), none, none, none] = some ((List.range tp.length).map fun t : Nat => PyData.bool (decide (cnt r t = tm tp t)), [some (.dat (td tp)), some (.dat (.int (p : Int))), some (.dat (rd r)), none, none, none]) := by
      unfold c_row_from_1
      refine (comp_ev (ds := rngD 0 tp.length) (en1 := [some (.dat (td tp)), some (.dat (.int (p : Int))), some (.dat (rd r)), none, none, none]) (en2 := [some (.dat (td tp)), some (.dat (.int (p : Int))), some (.dat (rd r)), none, none, none]) (r := (List.range tp.length).map fun t : Nat => PyData.bool (decide (cnt r t = tm tp t))) ?_ ?_ ?_).trans rfl
      · exact rng1_ev (os := [.val (.dat (.int (tp.length : Int)))]) (m := (tp.length : Int)) (by simp [evB, evS, evE, evL, evO, evOs, evEs, evT, evTs, evI, evC, evP, evDd, evPs, evWs, evG, evGs, fSeq2, aft, fNext, fRet, fIf, fAsg, fAsgL, fAsgT, fAsgD, fPar, fWv, fWl, fW0, setWs, wiS, fLit, fVar, Pf.slotAt, varS, fBin, fNeg, negD, fCmp, fChain, fAnd, fOr, fNot, fBool, boolS, fTest, fIte, fAt, fAtD, fCut, fPart, fNoPart, fOs, fOs0, fFn, fVs, fVs0, fTup, fFresh, fDisp, fTupOf, fListOf, fIsi, fCall, fCallW, fVal, fSlotC, isSet, Pf.rs, Pf.rsS, Pf.rsV, rsAll, rsD, keyD, datS, datsS, setS_s, setS_dv, setS_ol, setS_dat, setS_none, setS_olst, setS_rlst, setS_fdic, setS_odic, gN, gT, gs0, gsC, lenIs, binD, add_ii, subD, mulD, fdivD, modD, cmpD, ordD, isD, isNn, isNi, isNb, isNt, isNl, isiD, at_l, at_t, fn_lenL, fn_lenT, fn_max2, fn_abs, fn_int, fn_intb, intV, seq_l, seq_t, lstV, fApp, fAugD, fAugI, olS, odS, odH, inS, getElem_s, fn_len_td]) (by simp [evB, evS, evE, evL, evO, evOs, evEs, evT, evTs, evI, evC, evP, evDd, evPs, evWs, evG, evGs, fSeq2, aft, fNext, fRet, fIf, fAsg, fAsgL, fAsgT, fAsgD, fPar, fWv, fWl, fW0, setWs, wiS, fLit, fVar, Pf.slotAt, varS, fBin, fNeg, negD, fCmp, fChain, fAnd, fOr, fNot, fBool, boolS, fTest, fIte, fAt, fAtD, fCut, fPart, fNoPart, fOs, fOs0, fFn, fVs, fVs0, fTup, fFresh, fDisp, fTupOf, fListOf, fIsi, fCall, fCallW, fVal, fSlotC, isSet, Pf.rs, Pf.rsS, Pf.rsV, rsAll, rsD, keyD, datS, datsS, setS_s, setS_dv, setS_ol, setS_dat, setS_none, setS_olst, setS_rlst, setS_fdic, setS_odic, gN, gT, gs0, gsC, lenIs, binD, addD, subD, mulD, fdivD, modD, cmpD, ordD, isD, isN, isiD, at_l, at_t, fn_lenL, fn_lenT, fn_max2, fn_abs, fn_int, fn_intb, intV, seq_l, seq_t, lstV, fApp, fAugD, fAugI, olS, odS, odH, inS, getElem_s]) rfl (by omega)
      · rw [rngD_len]; unfold lim; omega
      · rw [rngD_map]; exact hcomp
    have hall := all_bools (List.range tp.length) fun t => decide (cnt r t = tm tp t)
    rw [f_row_from]
    unfold rf
    generalize ((List.range tp.length).map fun t : Nat => PyData.bool (decide (cnt r t = tm tp t))) = bs at *
    generalize ((List.range tp.length).all fun t => decide (cnt r t = tm tp t)) = b at *
    refine fb_ret (en' := [some (.dat (td tp)), some (.dat (.int (p : Int))), some (.dat (rd r)), none, none, none]) rfl (B_ret ?_) rfl
    cases b with
    | true => simp [evB, evS, evE, evL, evO, evOs, evEs, evT, evTs, evI, evC, evP, evDd, evPs, evWs, evG, evGs, fSeq2, aft, fNext, fRet, fIf, fAsg, fAsgL, fAsgT, fAsgD, fPar, fWv, fWl, fW0, setWs, wiS, fLit, fVar, Pf.slotAt, varS, fBin, fNeg, negD, fCmp, fChain, fAnd, fOr, fNot, fBool, boolS, fTest, fIte, fAt, fAtD, fCut, fPart, fNoPart, fOs, fOs0, fFn, fVs, fVs0, fTup, fFresh, fDisp, fTupOf, fListOf, fIsi, fCall, fCallW, fVal, fSlotC, isSet, Pf.rs, Pf.rsS, Pf.rsV, rsAll, rsD, keyD, datS, datsS, setS_s, setS_dv, setS_ol, setS_dat, setS_none, setS_olst, setS_rlst, setS_fdic, setS_odic, gN, gT, gs0, gsC, lenIs, binD, add_ii, subD, mulD, fdivD, modD, cmpD, ordD, isD, isNn, isNi, isNb, isNt, isNl, isiD, at_l, at_t, fn_lenL, fn_lenT, fn_max2, fn_abs, fn_int, fn_intb, intV, seq_l, seq_t, lstV, fApp, fAugD, fAugI, olS, odS, odH, inS, getElem_s, List.replicate, hlr, e0, hc, hall, ro]
    | false => simp [evB, evS, evE, evL, evO, evOs, evEs, evT, evTs, evI, evC, evP, evDd, evPs, evWs, evG, evGs, fSeq2, aft, fNext, fRet, fIf, fAsg, fAsgL, fAsgT, fAsgD, fPar, fWv, fWl, fW0, setWs, wiS, fLit, fVar, Pf.slotAt, varS, fBin, fNeg, negD, fCmp, fChain, fAnd, fOr, fNot, fBool, boolS, fTest, fIte, fAt, fAtD, fCut, fPart, fNoPart, fOs, fOs0, fFn, fVs, fVs0, fTup, fFresh, fDisp, fTupOf, fListOf, fIsi, fCall, fCallW, fVal, fSlotC, isSet, Pf.rs, Pf.rsS, Pf.rsV, rsAll, rsD, keyD, datS, datsS, setS_s, setS_dv, setS_ol, setS_dat, setS_none, setS_olst, setS_rlst, setS_fdic, setS_odic, gN, gT, gs0, gsC, lenIs, binD, add_ii, subD, mulD, fdivD, modD, cmpD, ordD, isD, isNn, isNi, isNb, isNt, isNl, isiD, at_l, at_t, fn_lenL, fn_lenT, fn_max2, fn_abs, fn_int, fn_intb, intV, seq_l, seq_t, lstV, fApp, fAugD, fAugI, olS, odS, odH, inS, getElem_s, List.replicate, hlr, e0, hc, hall, ro]
  | k + 1, lvm, hm0, tp, r, ht, p, hp, h10 => by
    obtain ⟨m, rfl⟩ : ∃ m, lvm = m + 1 := ⟨lvm - 1, by omega⟩
    have hlr := fn_len_rd r
    have e0 : eqD (.int (r.length : Int)) (.int (p : Int)) = some false := by rw [eqD_int, decide_eq_false (by omega)]
    have c1 := could_follow_lv (lvm := m) (by omega) (tp := tp) (r := r) (by omega) ht
    let E0 : Option D → Option D → En := fun o3 o4 => [some (.dat (td tp)), some (.dat (.int (p : Int))), some (.dat (rd r)), o3.map SV.dat, o4.map SV.dat, none]
    have hE : ∀ o3 o4, E0 o3 o4 = [some (.dat (td tp)), some (.dat (.int (p : Int))), some (.dat (rd r)), o3.map SV.dat, o4.map SV.dat, none] := fun _ _ => rfl
    obtain ⟨f, hf⟩ : ∃ f : Option Nat → Option Row, f = fun o => if lost tp (r ++ [o]) = true then none else rf tp k (r ++ [o]) := ⟨_, rfl⟩
    obtain ⟨L, hL⟩ : ∃ L, L = ((List.range tp.length).filter (cf tp r)).map some ++ [none] := ⟨_, rfl⟩
    have hrf : rf tp (k + 1) r = L.findSome? f := by rw [hL, hf]; rfl
    obtain ⟨fl, en', h1, h2⟩ := loop_ret (bd := evG (.name 3)) (body := evB (Y m) b_row_from_1) (P := fun i en => (L.take i).findSome? f = none ∧ ∃ o3 o4, en = E0 o3 o4) (R := fun v en => v = ro (L.findSome? f) ∧ ∃ o3 o4, en = E0 o3 o4) (L.map od) 0 (E0 none none) ⟨rfl, none, none, rfl⟩ fun j d en hd hP => by
      obtain ⟨hP, o3, o4, rfl⟩ := hP
      rw [Nat.zero_add] at hP ⊢
      obtain ⟨o, ho, rfl⟩ : ∃ o, L[j]? = some o ∧ d = od o := by
        rw [List.getElem?_map] at hd
        obtain ⟨o, e1, e2⟩ := Option.map_eq_some_iff.mp hd
        exact ⟨o, e1, e2.symm⟩
      obtain ⟨hj, hjo⟩ := List.getElem?_eq_some_iff.mp ho
      have et : L.take (j + 1) = L.take j ++ [o] := by rw [List.take_add_one, ho]; rfl
      have hsplit : L = L.take j ++ o :: L.drop (j + 1) := by
        rw [← hjo, List.getElem_cons_drop, List.take_append_drop]
      have ha := add_rd (r := r) (by omega) o
      have c2 := is_lost_lv (lvm := m) (by omega) (tp := tp) (r := r ++ [o]) (by rw [List.length_append, List.length_singleton]; omega) ht
      have l1 : (1 : Nat) ≤ lim := by decide
      cases hl : lost tp (r ++ [o]) with
      | true =>
        have hfo : f o = none := by rw [hf]; exact if_pos hl
        rw [hl] at c2
        refine ⟨_, .next, E0 (some (od o)) o4, gN_dv rfl, B_next ?_ rfl, .inl ⟨rfl, ?_, _, _, rfl⟩⟩
        · generalize rd (r ++ [o]) = R2 at *
          simp [evB, evS, evE, evL, evO, evOs, evEs, evT, evTs, evI, evC, evP, evDd, evPs, evWs, evG, evGs, fSeq2, aft, fNext, fRet, fIf, fAsg, fAsgL, fAsgT, fAsgD, fPar, fWv, fWl, fW0, setWs, wiS, fLit, fVar, Pf.slotAt, varS, fBin, fNeg, negD, fCmp, fChain, fAnd, fOr, fNot, fBool, boolS, fTest, fIte, fAt, fAtD, fCut, fPart, fNoPart, fOs, fOs0, fFn, fVs, fVs0, fTup, fFresh, fDisp, fTupOf, fListOf, fIsi, fCall, fCallW, fVal, fSlotC, isSet, Pf.rs, Pf.rsS, Pf.rsV, rsAll, rsD, keyD, datS, datsS, setS_s, setS_dv, setS_ol, setS_dat, setS_none, setS_olst, setS_rlst, setS_fdic, setS_odic, gN, gT, gs0, gsC, lenIs, binD, add_ii, subD, mulD, fdivD, modD, cmpD, ordD, isD, isNn, isNi, isNb, isNt, isNl, isiD, at_l, at_t, fn_lenL, fn_lenT, fn_max2, fn_abs, fn_int, fn_intb, intV, seq_l, seq_t, lstV, fApp, fAugD, fAugI, olS, odS, odH, inS, getElem_s, hE, l1, ha, np_is_lost, c2]
        · rw [et, List.findSome?_append, hP, List.findSome?_cons, hfo]
          rfl
      | false =>
        have hfo : f o = rf tp k (r ++ [o]) := by rw [hf]; exact if_neg (by rw [hl]; decide)
        rw [hl] at c2
        have c3 := row_from_lv k (lvm := m) (by omega) (tp := tp) (r := r ++ [o]) ht (p := p) (by rw [List.length_append, List.length_singleton]; omega) h10
        rw [← hfo] at c3
        cases hx : f o with
        | none =>
          rw [hx] at c3
          refine ⟨_, .next, E0 (some (od o)) (some .none), gN_dv rfl, B_next ?_ rfl, .inl ⟨rfl, ?_, _, _, rfl⟩⟩
          · simp only [ro] at c3
            generalize rd (r ++ [o]) = R2 at *
            simp [evB, evS, evE, evL, evO, evOs, evEs, evT, evTs, evI, evC, evP, evDd, evPs, evWs, evG, evGs, fSeq2, aft, fNext, fRet, fIf, fAsg, fAsgL, fAsgT, fAsgD, fPar, fWv, fWl, fW0, setWs, wiS, fLit, fVar, Pf.slotAt, varS, fBin, fNeg, negD, fCmp, fChain, fAnd, fOr, fNot, fBool, boolS, fTest, fIte, fAt, fAtD, fCut, fPart, fNoPart, fOs, fOs0, fFn, fVs, fVs0, fTup, fFresh, fDisp, fTupOf, fListOf, fIsi, fCall, fCallW, fVal, fSlotC, isSet, Pf.rs, Pf.rsS, Pf.rsV, rsAll, rsD, keyD, datS, datsS, setS_s, setS_dv, setS_ol, setS_dat, setS_none, setS_olst, setS_rlst, setS_fdic, setS_odic, gN, gT, gs0, gsC, lenIs, binD, add_ii, subD, mulD, fdivD, modD, cmpD, ordD, isD, isNn, isNi, isNb, isNt, isNl, isiD, at_l, at_t, fn_lenL, fn_lenT, fn_max2, fn_abs, fn_int, fn_intb, intV, seq_l, seq_t, lstV, fApp, fAugD, fAugI, olS, odS, odH, inS, getElem_s, hE, l1, ha, np_is_lost, np_row_from, c2, c3]
          · rw [et, List.findSome?_append, hP, List.findSome?_cons, hx]
            rfl
        | some x =>
          rw [hx] at c3
          have hfin : L.findSome? f = some x := by
            rw [hsplit, List.findSome?_append, hP, List.findSome?_cons, hx]
            rfl
          refine ⟨_, .ret (rd x), E0 (some (od o)) (some (rd x)), gN_dv rfl, B_ret ?_, .inr ⟨_, rfl, by rw [hfin]; rfl, _, _, rfl⟩⟩
          simp only [ro] at c3
          have hn : isN (rd x) = false := rfl
          generalize rd (r ++ [o]) = R2 at *
          generalize rd x = X at *
          simp [evB, evS, evE, evL, evO, evOs, evEs, evT, evTs, evI, evC, evP, evDd, evPs, evWs, evG, evGs, fSeq2, aft, fNext, fRet, fIf, fAsg, fAsgL, fAsgT, fAsgD, fPar, fWv, fWl, fW0, setWs, wiS, fLit, fVar, Pf.slotAt, varS, fBin, fNeg, negD, fCmp, fChain, fAnd, fOr, fNot, fBool, boolS, fTest, fIte, fAt, fAtD, fCut, fPart, fNoPart, fOs, fOs0, fFn, fVs, fVs0, fTup, fFresh, fDisp, fTupOf, fListOf, fIsi, fCall, fCallW, fVal, fSlotC, isSet, Pf.rs, Pf.rsS, Pf.rsV, rsAll, rsD, keyD, datS, datsS, setS_s, setS_dv, setS_ol, setS_dat, setS_none, setS_olst, setS_rlst, setS_fdic, setS_odic, gN, gT, gs0, gsC, lenIs, binD, add_ii, subD, mulD, fdivD, modD, cmpD, ordD, isD, isNn, isNi, isNb, isNt, isNl, isiD, at_l, at_t, fn_lenL, fn_lenT, fn_max2, fn_abs, fn_int, fn_intb, intV, seq_l, seq_t, lstV, fApp, fAugD, fAugI, olS, odS, odH, inS, getElem_s, hE, l1, ha, np_is_lost, np_row_from, c2, c3, hn]
    have hLl : L.length ≤ 4 := by
      rw [hL, List.length_append, List.length_map, List.length_singleton]
      have := List.length_filter_le (cf tp r) (List.range tp.length)
      rw [List.length_range] at this
      omega
    have hI : evI (Y m) (.seq (.bin .add (.val (.call "could_follow" 5 (.cons (.var 0) (.cons (.var 2) .nil)))) (.val (.tup (.cons (.lit .none) .nil))))) (E0 none none) = some (L.map od, E0 none none) := by
      have e : addD (.tuple (nl ((List.range tp.length).filter (cf tp r)))) (.tuple [.none]) = some (.tuple (L.map od)) := by
        show (if _ then some (PyData.tuple _) else none) = _
        have hll : L.length = ((List.range tp.length).filter (cf tp r)).length + 1 := by rw [hL, List.length_append, List.length_map]; rfl
        rw [if_pos (by rw [nl_len]; show _ + 1 ≤ lim; unfold lim; omega)]
        rw [hL, List.map_append, List.map_map]
        rfl
      have l1 : (1 : Nat) ≤ lim := by decide
      rw [evI]
      unfold fSeq
      generalize nl ((List.range tp.length).filter (cf tp r)) = xs at *
      generalize L.map od = ys at *
      simp [evB, evS, evE, evL, evO, evOs, evEs, evT, evTs, evI, evC, evP, evDd, evPs, evWs, evG, evGs, fSeq2, aft, fNext, fRet, fIf, fAsg, fAsgL, fAsgT, fAsgD, fPar, fWv, fWl, fW0, setWs, wiS, fLit, fVar, Pf.slotAt, varS, fBin, fNeg, negD, fCmp, fChain, fAnd, fOr, fNot, fBool, boolS, fTest, fIte, fAt, fAtD, fCut, fPart, fNoPart, fOs, fOs0, fFn, fVs, fVs0, fTup, fFresh, fDisp, fTupOf, fListOf, fIsi, fCall, fCallW, fVal, fSlotC, isSet, Pf.rs, Pf.rsS, Pf.rsV, rsAll, rsD, keyD, datS, datsS, setS_s, setS_dv, setS_ol, setS_dat, setS_none, setS_olst, setS_rlst, setS_fdic, setS_odic, gN, gT, gs0, gsC, lenIs, binD, add_ii, subD, mulD, fdivD, modD, cmpD, ordD, isD, isNn, isNi, isNb, isNt, isNl, isiD, at_l, at_t, fn_lenL, fn_lenT, fn_max2, fn_abs, fn_int, fn_intb, intV, seq_l, seq_t, lstV, fApp, fAugD, fAugI, olS, odS, odH, inS, getElem_s, hE, np_could_follow, c1, l1, e]
    rw [f_row_from, hrf]
    rw [Nat.zero_add, List.length_map, List.take_of_length_le (Nat.le_refl _)] at h2
    rcases h2 with ⟨rfl, hP, o3, o4, rfl⟩ | ⟨v, rfl, hv, o3, o4, rfl⟩
    · refine fb_ret (en' := E0 o3 o4) rfl (B_next (en1 := E0 none none) ?_ (B_next (for_next hI h1) (B_ret ?_))) rfl
      · simp [evB, evS, evE, evL, evO, evOs, evEs, evT, evTs, evI, evC, evP, evDd, evPs, evWs, evG, evGs, fSeq2, aft, fNext, fRet, fIf, fAsg, fAsgL, fAsgT, fAsgD, fPar, fWv, fWl, fW0, setWs, wiS, fLit, fVar, Pf.slotAt, varS, fBin, fNeg, negD, fCmp, fChain, fAnd, fOr, fNot, fBool, boolS, fTest, fIte, fAt, fAtD, fCut, fPart, fNoPart, fOs, fOs0, fFn, fVs, fVs0, fTup, fFresh, fDisp, fTupOf, fListOf, fIsi, fCall, fCallW, fVal, fSlotC, isSet, Pf.rs, Pf.rsS, Pf.rsV, rsAll, rsD, keyD, datS, datsS, setS_s, setS_dv, setS_ol, setS_dat, setS_none, setS_olst, setS_rlst, setS_fdic, setS_odic, gN, gT, gs0, gsC, lenIs, binD, add_ii, subD, mulD, fdivD, modD, cmpD, ordD, isD, isNn, isNi, isNb, isNt, isNl, isiD, at_l, at_t, fn_lenL, fn_lenT, fn_max2, fn_abs, fn_int, fn_intb, intV, seq_l, seq_t, lstV, fApp, fAugD, fAugI, olS, odS, odH, inS, getElem_s, hE, List.replicate, hlr, e0]
      · rw [hP]
        simp [evB, evS, evE, evL, evO, evOs, evEs, evT, evTs, evI, evC, evP, evDd, evPs, evWs, evG, evGs, fSeq2, aft, fNext, fRet, fIf, fAsg, fAsgL, fAsgT, fAsgD, fPar, fWv, fWl, fW0, setWs, wiS, fLit, fVar, Pf.slotAt, varS, fBin, fNeg, negD, fCmp, fChain, fAnd, fOr, fNot, fBool, boolS, fTest, fIte, fAt, fAtD, fCut, fPart, fNoPart, fOs, fOs0, fFn, fVs, fVs0, fTup, fFresh, fDisp, fTupOf, fListOf, fIsi, fCall, fCallW, fVal, fSlotC, isSet, Pf.rs, Pf.rsS, Pf.rsV, rsAll, rsD, keyD, datS, datsS, setS_s, setS_dv, setS_ol, setS_dat, setS_none, setS_olst, setS_rlst, setS_fdic, setS_odic, gN, gT, gs0, gsC, lenIs, binD, add_ii, subD, mulD, fdivD, modD, cmpD, ordD, isD, isNn, isNi, isNb, isNt, isNl, isiD, at_l, at_t, fn_lenL, fn_lenT, fn_max2, fn_abs, fn_int, fn_intb, intV, seq_l, seq_t, lstV, fApp, fAugD, fAugI, olS, odS, odH, inS, getElem_s, hE, ro]
    · subst hv
      refine fb_ret (en' := E0 o3 o4) rfl (B_next (en1 := E0 none none) ?_ (B_ret (for_any hI h1))) rfl
      simp [evB, evS, evE, evL, evO, evOs, evEs, evT, evTs, evI, evC, evP, evDd, evPs, evWs, evG, evGs, fSeq2, aft, fNext, fRet, fIf, fAsg, fAsgL, fAsgT, fAsgD, fPar, fWv, fWl, fW0, setWs, wiS, fLit, fVar, Pf.slotAt, varS, fBin, fNeg, negD, fCmp, fChain, fAnd, fOr, fNot, fBool, boolS, fTest, fIte, fAt, fAtD, fCut, fPart, fNoPart, fOs, fOs0, fFn, fVs, fVs0, fTup, fFresh, fDisp, fTupOf, fListOf, fIsi, fCall, fCallW, fVal, fSlotC, isSet, Pf.rs, Pf.rsS, Pf.rsV, rsAll, rsD, keyD, datS, datsS, setS_s, setS_dv, setS_ol, setS_dat, setS_none, setS_olst, setS_rlst, setS_fdic, setS_odic, gN, gT, gs0, gsC, lenIs, binD, add_ii, subD, mulD, fdivD, modD, cmpD, ordD, isD, isNn, isNi, isNb, isNt, isNl, isiD, at_l, at_t, fn_lenL, fn_lenT, fn_max2, fn_abs, fn_int, fn_intb, intV, seq_l, seq_t, lstV, fApp, fAugD, fAugI, olS, odS, odH, inS, getElem_s, hE, List.replicate, hlr, e0]
theorem back_row_lv {lvm : Nat} (hm0 : 15 ≤ lvm) {tp : Top} (ht : tp.length ≤ 3) {p : Nat} (hp : p ≤ 10) : ((Y lvm).f 8).2 [.dat (td tp), .dat (.int (p : Int))] = some (ro (fstR tp p), [.dat (td tp), .dat (.int (p : Int))]) := by
  obtain ⟨m, rfl⟩ : ∃ m, lvm = m + 1 := ⟨lvm - 1, by omega⟩
  have c1 := row_from_lv p (lvm := m) (by omega) (tp := tp) (r := []) ht (p := p) (by simp) hp
  rw [rf_first] at c1
  have e : rd [] = .tuple [] := rfl
  rw [e] at c1
  have l0 : (0 : Nat) ≤ lim := by decide
  rw [f_back_row]
  generalize ro (fstR tp p) = X at *
  simp [fBody, b_back_row, evB, evS, evE, evL, evO, evOs, evEs, evT, evTs, evI, evC, evP, evDd, evPs, evWs, evG, evGs, fSeq2, aft, fNext, fRet, fIf, fAsg, fAsgL, fAsgT, fAsgD, fPar, fWv, fWl, fW0, setWs, wiS, fLit, fVar, Pf.slotAt, varS, fBin, fNeg, negD, fCmp, fChain, fAnd, fOr, fNot, fBool, boolS, fTest, fIte, fAt, fAtD, fCut, fPart, fNoPart, fOs, fOs0, fFn, fVs, fVs0, fTup, fFresh, fDisp, fTupOf, fListOf, fIsi, fCall, fCallW, fVal, fSlotC, isSet, Pf.rs, Pf.rsS, Pf.rsV, rsAll, rsD, keyD, datS, datsS, setS_s, setS_dv, setS_ol, setS_dat, setS_none, setS_olst, setS_rlst, setS_fdic, setS_odic, gN, gT, gs0, gsC, lenIs, binD, addD, subD, mulD, fdivD, modD, cmpD, ordD, isD, isN, isiD, at_l, at_t, fn_lenL, fn_lenT, fn_max2, fn_abs, fn_int, fn_intb, intV, seq_l, seq_t, lstV, fApp, fAugD, fAugI, olS, odS, odH, inS, getElem_s, l0, np_row_from, c1, endV, outs, ownB]
theorem isN_ro (o : Option Row) : isN (ro o) = !o.isSome := by cases o <;> rfl
theorem least_places_lv {lvm : Nat} (hm0 : 16 ≤ lvm) {tp : Top} (ht : tp.length ≤ 3) : ((Y lvm).f 10).2 [.dat (td tp), .dat (.int 5)] = some (od (ff (fun p => (fstR tp p).isSome) 6), [.dat (td tp), .dat (.int 5)]) := by
  obtain ⟨m, rfl⟩ : ∃ m, lvm = m + 1 := ⟨lvm - 1, by omega⟩
  obtain ⟨fl, en', h1, h2⟩ := loop_ret (bd := evG (.name 2)) (body := evB (Y m) b_least_places_1) (P := fun i en => ff (fun p => (fstR tp p).isSome) i = none ∧ ∃ o2 : Option D, en = [some (.dat (td tp)), some (.dat (.int 5)), o2.map SV.dat]) (R := fun v en => v = od (ff (fun p => (fstR tp p).isSome) 6) ∧ ∃ o2 : Option D, en = [some (.dat (td tp)), some (.dat (.int 5)), o2.map SV.dat]) (rngD 0 6) 0 [some (.dat (td tp)), some (.dat (.int 5)), none] ⟨rfl, none, rfl⟩ fun j d en hd hP => by
    obtain ⟨hP, o2, rfl⟩ := hP
    obtain ⟨hj, rfl⟩ := rngD_at hd
    rw [Nat.zero_add] at hP ⊢
    rw [Int.zero_add]
    have c1 := back_row_lv (lvm := m) (by omega) (tp := tp) ht (p := j) (by omega)
    have hn := isN_ro (fstR tp j)
    have hfs : ff (fun p => (fstR tp p).isSome) (j + 1) = if (fstR tp j).isSome = true then some j else none := by
      show (match ff (fun p => (fstR tp p).isSome) j with | some k => some k | none => if (fstR tp j).isSome = true then some j else none) = _
      rw [hP]
    cases hs : (fstR tp j).isSome with
    | true =>
      rw [hs] at hn hfs
      rw [if_pos rfl] at hfs
      have h6 := ff_mono hfs (6 - (j + 1))
      rw [show j + 1 + (6 - (j + 1)) = 6 by omega] at h6
      refine ⟨_, .ret (.int (j : Int)), [some (.dat (td tp)), some (.dat (.int 5)), some (.dat (.int (j : Int)))], gN_dv rfl, B_ret ?_, .inr ⟨_, rfl, by rw [h6]; rfl, some (.int (j : Int)), rfl⟩⟩
      generalize ro (fstR tp j) = X at *
      simp [evB, evS, evE, evL, evO, evOs, evEs, evT, evTs, evI, evC, evP, evDd, evPs, evWs, evG, evGs, fSeq2, aft, fNext, fRet, fIf, fAsg, fAsgL, fAsgT, fAsgD, fPar, fWv, fWl, fW0, setWs, wiS, fLit, fVar, Pf.slotAt, varS, fBin, fNeg, negD, fCmp, fChain, fAnd, fOr, fNot, fBool, boolS, fTest, fIte, fAt, fAtD, fCut, fPart, fNoPart, fOs, fOs0, fFn, fVs, fVs0, fTup, fFresh, fDisp, fTupOf, fListOf, fIsi, fCall, fCallW, fVal, fSlotC, isSet, Pf.rs, Pf.rsS, Pf.rsV, rsAll, rsD, keyD, datS, datsS, setS_s, setS_dv, setS_ol, setS_dat, setS_none, setS_olst, setS_rlst, setS_fdic, setS_odic, gN, gT, gs0, gsC, lenIs, binD, add_ii, subD, mulD, fdivD, modD, cmpD, ordD, isD, isNn, isNi, isNb, isNt, isNl, isiD, at_l, at_t, fn_lenL, fn_lenT, fn_max2, fn_abs, fn_int, fn_intb, intV, seq_l, seq_t, lstV, fApp, fAugD, fAugI, olS, odS, odH, inS, getElem_s, np_back_row, c1, hn]
    | false =>
      rw [hs] at hn hfs
      rw [if_neg (by decide)] at hfs
      refine ⟨_, .next, [some (.dat (td tp)), some (.dat (.int 5)), some (.dat (.int (j : Int)))], gN_dv rfl, B_next ?_ rfl, .inl ⟨rfl, hfs, some (.int (j : Int)), rfl⟩⟩
      generalize ro (fstR tp j) = X at *
      simp [evB, evS, evE, evL, evO, evOs, evEs, evT, evTs, evI, evC, evP, evDd, evPs, evWs, evG, evGs, fSeq2, aft, fNext, fRet, fIf, fAsg, fAsgL, fAsgT, fAsgD, fPar, fWv, fWl, fW0, setWs, wiS, fLit, fVar, Pf.slotAt, varS, fBin, fNeg, negD, fCmp, fChain, fAnd, fOr, fNot, fBool, boolS, fTest, fIte, fAt, fAtD, fCut, fPart, fNoPart, fOs, fOs0, fFn, fVs, fVs0, fTup, fFresh, fDisp, fTupOf, fListOf, fIsi, fCall, fCallW, fVal, fSlotC, isSet, Pf.rs, Pf.rsS, Pf.rsV, rsAll, rsD, keyD, datS, datsS, setS_s, setS_dv, setS_ol, setS_dat, setS_none, setS_olst, setS_rlst, setS_fdic, setS_odic, gN, gT, gs0, gsC, lenIs, binD, add_ii, subD, mulD, fdivD, modD, cmpD, ordD, isD, isNn, isNi, isNb, isNt, isNl, isiD, at_l, at_t, fn_lenL, fn_lenT, fn_max2, fn_abs, fn_int, fn_intb, intV, seq_l, seq_t, lstV, fApp, fAugD, fAugI, olS, odS, odH, inS, getElem_s, np_back_row, c1, hn]
  have hI : evI (Y m) (.rng1 (.cons (.val (.bin .add (.slot 1) (.val (.lit (.int 1))))) .nil)) [some (.dat (td tp)), some (.dat (.int 5)), none] = some (rngD 0 6, [some (.dat (td tp)), some (.dat (.int 5)), none]) := rng1_ev (os := [.val (.dat (.int 6))]) (m := 6) (by simp [evB, evS, evE, evL, evO, evOs, evEs, evT, evTs, evI, evC, evP, evDd, evPs, evWs, evG, evGs, fSeq2, aft, fNext, fRet, fIf, fAsg, fAsgL, fAsgT, fAsgD, fPar, fWv, fWl, fW0, setWs, wiS, fLit, fVar, Pf.slotAt, varS, fBin, fNeg, negD, fCmp, fChain, fAnd, fOr, fNot, fBool, boolS, fTest, fIte, fAt, fAtD, fCut, fPart, fNoPart, fOs, fOs0, fFn, fVs, fVs0, fTup, fFresh, fDisp, fTupOf, fListOf, fIsi, fCall, fCallW, fVal, fSlotC, isSet, Pf.rs, Pf.rsS, Pf.rsV, rsAll, rsD, keyD, datS, datsS, setS_s, setS_dv, setS_ol, setS_dat, setS_none, setS_olst, setS_rlst, setS_fdic, setS_odic, gN, gT, gs0, gsC, lenIs, binD, addD, subD, mulD, fdivD, modD, cmpD, ordD, isD, isN, isiD, at_l, at_t, fn_lenL, fn_lenT, fn_max2, fn_abs, fn_int, fn_intb, intV, seq_l, seq_t, lstV, fApp, fAugD, fAugI, olS, odS, odH, inS, getElem_s]) (by simp [evB, evS, evE, evL, evO, evOs, evEs, evT, evTs, evI, evC, evP, evDd, evPs, evWs, evG, evGs, fSeq2, aft, fNext, fRet, fIf, fAsg, fAsgL, fAsgT, fAsgD, fPar, fWv, fWl, fW0, setWs, wiS, fLit, fVar, Pf.slotAt, varS, fBin, fNeg, negD, fCmp, fChain, fAnd, fOr, fNot, fBool, boolS, fTest, fIte, fAt, fAtD, fCut, fPart, fNoPart, fOs, fOs0, fFn, fVs, fVs0, fTup, fFresh, fDisp, fTupOf, fListOf, fIsi, fCall, fCallW, fVal, fSlotC, isSet, Pf.rs, Pf.rsS, Pf.rsV, rsAll, rsD, keyD, datS, datsS, setS_s, setS_dv, setS_ol, setS_dat, setS_none, setS_olst, setS_rlst, setS_fdic, setS_odic, gN, gT, gs0, gsC, lenIs, binD, addD, subD, mulD, fdivD, modD, cmpD, ordD, isD, isN, isiD, at_l, at_t, fn_lenL, fn_lenT, fn_max2, fn_abs, fn_int, fn_intb, intV, seq_l, seq_t, lstV, fApp, fAugD, fAugI, olS, odS, odH, inS, getElem_s]) rfl (by omega)
  rw [rngD_len, Nat.zero_add] at h2
  rw [f_least_places]
  rcases h2 with ⟨rfl, hP, o2, rfl⟩ | ⟨v, rfl, hv, o2, rfl⟩
  · refine fb_ret (en' := [some (.dat (td tp)), some (.dat (.int 5)), o2.map SV.dat]) rfl (B_next (for_next hI h1) (B_ret ?_)) rfl
    rw [hP]
    simp [evB, evS, evE, evL, evO, evOs, evEs, evT, evTs, evI, evC, evP, evDd, evPs, evWs, evG, evGs, fSeq2, aft, fNext, fRet, fIf, fAsg, fAsgL, fAsgT, fAsgD, fPar, fWv, fWl, fW0, setWs, wiS, fLit, fVar, Pf.slotAt, varS, fBin, fNeg, negD, fCmp, fChain, fAnd, fOr, fNot, fBool, boolS, fTest, fIte, fAt, fAtD, fCut, fPart, fNoPart, fOs, fOs0, fFn, fVs, fVs0, fTup, fFresh, fDisp, fTupOf, fListOf, fIsi, fCall, fCallW, fVal, fSlotC, isSet, Pf.rs, Pf.rsS, Pf.rsV, rsAll, rsD, keyD, datS, datsS, setS_s, setS_dv, setS_ol, setS_dat, setS_none, setS_olst, setS_rlst, setS_fdic, setS_odic, gN, gT, gs0, gsC, lenIs, binD, add_ii, subD, mulD, fdivD, modD, cmpD, ordD, isD, isNn, isNi, isNb, isNt, isNl, isiD, at_l, at_t, fn_lenL, fn_lenT, fn_max2, fn_abs, fn_int, fn_intb, intV, seq_l, seq_t, lstV, fApp, fAugD, fAugI, olS, odS, odH, inS, getElem_s, od]
  · subst hv
    exact fb_ret (en' := [some (.dat (td tp)), some (.dat (.int 5)), o2.map SV.dat]) rfl (B_ret (for_any hI h1)) rfl
/-! rows told, right or not -/
def Ent (d : D) : Prop := d = .none ∨ (∃ i, d = .int i) ∨ ∃ b, d = .bool b
def okE (n : Nat) (d : D) : Bool := match d with
  | .none => true
  | .int i => decide (0 ≤ i) && decide (i < (n : Int))
  | _ => false
def dn (d : D) : Option Nat := match d with
  | .int i => some i.toNat
  | _ => none
def Bt (d : D) : Prop := d = .none ∨ (∃ xs, d = .list xs) ∨ ∃ ds, d = .tuple ds ∧ ds.length ≤ 10 ∧ ∀ x ∈ ds, Ent x
def ibr (tp : Top) (p : Nat) (d : D) : Bool := match d with
  | .tuple ds => decide (ds.length = p) && (ds.all (okE tp.length) && valid tp (ds.map dn))
  | _ => false
theorem dn_od {n : Nat} {ds : List D} (h : ds.all (okE n) = true) (he : ∀ x ∈ ds, Ent x) : (ds.map dn).map od = ds := by
  rw [List.map_map]
  refine (List.map_congr_left fun x hx => ?_).trans (List.map_id _)
  have h1 := List.all_eq_true.mp h x hx
  rcases he x hx with rfl | ⟨i, rfl⟩ | ⟨b, rfl⟩
  · rfl
  · unfold okE at h1
    dsimp only at h1
    rw [Bool.and_eq_true] at h1
    have := of_decide_eq_true h1.1
    show PyData.int ((i.toNat : Nat) : Int) = PyData.int i
    congr 1
    omega
  · cases h1
theorem is_below_ok (n : Nat) {d : D} (h : (∃ i, d = .int i) ∨ ∃ b, d = .bool b) (k : Nat) : ((Y (n + 2)).f 1).2 [.dat d, .dat (.int (k : Int))] = some (.bool (okE k d), [.dat d, .dat (.int (k : Int))]) := by
  have c1 : ((Y (n + 1)).f 0).2 [.dat d] = some (.bool (match d with | .int _ => true | _ => false), [.dat d]) := by
    rw [f_is_number]
    rcases h with ⟨i, rfl⟩ | ⟨b, rfl⟩
    · simp [fBody, b_is_number, evB, evS, evE, evL, evO, evOs, evEs, evT, evTs, evI, evC, evP, evDd, evPs, evWs, evG, evGs, fSeq2, aft, fNext, fRet, fIf, fAsg, fAsgL, fAsgT, fAsgD, fPar, fWv, fWl, fW0, setWs, wiS, fLit, fVar, Pf.slotAt, varS, fBin, fNeg, negD, fCmp, fChain, fAnd, fOr, fNot, fBool, boolS, fTest, fIte, fAt, fAtD, fCut, fPart, fNoPart, fOs, fOs0, fFn, fVs, fVs0, fTup, fFresh, fDisp, fTupOf, fListOf, fIsi, fCall, fCallW, fVal, fSlotC, isSet, Pf.rs, Pf.rsS, Pf.rsV, rsAll, rsD, keyD, datS, datsS, setS_s, setS_dv, setS_ol, setS_dat, setS_none, setS_olst, setS_rlst, setS_fdic, setS_odic, gN, gT, gs0, gsC, lenIs, binD, addD, subD, mulD, fdivD, modD, cmpD, ordD, isD, isN, isiD, at_l, at_t, fn_lenL, fn_lenT, fn_max2, fn_abs, fn_int, fn_intb, intV, seq_l, seq_t, lstV, fApp, fAugD, fAugI, olS, odS, odH, inS, getElem_s, endV, outs, ownB]
    · simp [fBody, b_is_number, evB, evS, evE, evL, evO, evOs, evEs, evT, evTs, evI, evC, evP, evDd, evPs, evWs, evG, evGs, fSeq2, aft, fNext, fRet, fIf, fAsg, fAsgL, fAsgT, fAsgD, fPar, fWv, fWl, fW0, setWs, wiS, fLit, fVar, Pf.slotAt, varS, fBin, fNeg, negD, fCmp, fChain, fAnd, fOr, fNot, fBool, boolS, fTest, fIte, fAt, fAtD, fCut, fPart, fNoPart, fOs, fOs0, fFn, fVs, fVs0, fTup, fFresh, fDisp, fTupOf, fListOf, fIsi, fCall, fCallW, fVal, fSlotC, isSet, Pf.rs, Pf.rsS, Pf.rsV, rsAll, rsD, keyD, datS, datsS, setS_s, setS_dv, setS_ol, setS_dat, setS_none, setS_olst, setS_rlst, setS_fdic, setS_odic, gN, gT, gs0, gsC, lenIs, binD, addD, subD, mulD, fdivD, modD, cmpD, ordD, isD, isN, isiD, at_l, at_t, fn_lenL, fn_lenT, fn_max2, fn_abs, fn_int, fn_intb, intV, seq_l, seq_t, lstV, fApp, fAugD, fAugI, olS, odS, odH, inS, getElem_s, endV, outs, ownB]
  rw [f_is_below]
  rcases h with ⟨i, rfl⟩ | ⟨b, rfl⟩
  · dsimp only at c1
    by_cases y1 : 0 ≤ i
    · by_cases y2 : i < (k : Int)
      · simp [fBody, b_is_below, evB, evS, evE, evL, evO, evOs, evEs, evT, evTs, evI, evC, evP, evDd, evPs, evWs, evG, evGs, fSeq2, aft, fNext, fRet, fIf, fAsg, fAsgL, fAsgT, fAsgD, fPar, fWv, fWl, fW0, setWs, wiS, fLit, fVar, Pf.slotAt, varS, fBin, fNeg, negD, fCmp, fChain, fAnd, fOr, fNot, fBool, boolS, fTest, fIte, fAt, fAtD, fCut, fPart, fNoPart, fOs, fOs0, fFn, fVs, fVs0, fTup, fFresh, fDisp, fTupOf, fListOf, fIsi, fCall, fCallW, fVal, fSlotC, isSet, Pf.rs, Pf.rsS, Pf.rsV, rsAll, rsD, keyD, datS, datsS, setS_s, setS_dv, setS_ol, setS_dat, setS_none, setS_olst, setS_rlst, setS_fdic, setS_odic, gN, gT, gs0, gsC, lenIs, binD, addD, subD, mulD, fdivD, modD, cmpD, ordD, isD, isN, isiD, at_l, at_t, fn_lenL, fn_lenT, fn_max2, fn_abs, fn_int, fn_intb, intV, seq_l, seq_t, lstV, fApp, fAugD, fAugI, olS, odS, odH, inS, getElem_s, np_is_number, c1, okE, y1, y2, endV, outs, ownB]
      · simp [fBody, b_is_below, evB, evS, evE, evL, evO, evOs, evEs, evT, evTs, evI, evC, evP, evDd, evPs, evWs, evG, evGs, fSeq2, aft, fNext, fRet, fIf, fAsg, fAsgL, fAsgT, fAsgD, fPar, fWv, fWl, fW0, setWs, wiS, fLit, fVar, Pf.slotAt, varS, fBin, fNeg, negD, fCmp, fChain, fAnd, fOr, fNot, fBool, boolS, fTest, fIte, fAt, fAtD, fCut, fPart, fNoPart, fOs, fOs0, fFn, fVs, fVs0, fTup, fFresh, fDisp, fTupOf, fListOf, fIsi, fCall, fCallW, fVal, fSlotC, isSet, Pf.rs, Pf.rsS, Pf.rsV, rsAll, rsD, keyD, datS, datsS, setS_s, setS_dv, setS_ol, setS_dat, setS_none, setS_olst, setS_rlst, setS_fdic, setS_odic, gN, gT, gs0, gsC, lenIs, binD, addD, subD, mulD, fdivD, modD, cmpD, ordD, isD, isN, isiD, at_l, at_t, fn_lenL, fn_lenT, fn_max2, fn_abs, fn_int, fn_intb, intV, seq_l, seq_t, lstV, fApp, fAugD, fAugI, olS, odS, odH, inS, getElem_s, np_is_number, c1, okE, y1, y2, endV, outs, ownB]
    · simp [fBody, b_is_below, evB, evS, evE, evL, evO, evOs, evEs, evT, evTs, evI, evC, evP, evDd, evPs, evWs, evG, evGs, fSeq2, aft, fNext, fRet, fIf, fAsg, fAsgL, fAsgT, fAsgD, fPar, fWv, fWl, fW0, setWs, wiS, fLit, fVar, Pf.slotAt, varS, fBin, fNeg, negD, fCmp, fChain, fAnd, fOr, fNot, fBool, boolS, fTest, fIte, fAt, fAtD, fCut, fPart, fNoPart, fOs, fOs0, fFn, fVs, fVs0, fTup, fFresh, fDisp, fTupOf, fListOf, fIsi, fCall, fCallW, fVal, fSlotC, isSet, Pf.rs, Pf.rsS, Pf.rsV, rsAll, rsD, keyD, datS, datsS, setS_s, setS_dv, setS_ol, setS_dat, setS_none, setS_olst, setS_rlst, setS_fdic, setS_odic, gN, gT, gs0, gsC, lenIs, binD, addD, subD, mulD, fdivD, modD, cmpD, ordD, isD, isN, isiD, at_l, at_t, fn_lenL, fn_lenT, fn_max2, fn_abs, fn_int, fn_intb, intV, seq_l, seq_t, lstV, fApp, fAugD, fAugI, olS, odS, odH, inS, getElem_s, np_is_number, c1, okE, y1, endV, outs, ownB]
  · dsimp only at c1
    simp [fBody, b_is_below, evB, evS, evE, evL, evO, evOs, evEs, evT, evTs, evI, evC, evP, evDd, evPs, evWs, evG, evGs, fSeq2, aft, fNext, fRet, fIf, fAsg, fAsgL, fAsgT, fAsgD, fPar, fWv, fWl, fW0, setWs, wiS, fLit, fVar, Pf.slotAt, varS, fBin, fNeg, negD, fCmp, fChain, fAnd, fOr, fNot, fBool, boolS, fTest, fIte, fAt, fAtD, fCut, fPart, fNoPart, fOs, fOs0, fFn, fVs, fVs0, fTup, fFresh, fDisp, fTupOf, fListOf, fIsi, fCall, fCallW, fVal, fSlotC, isSet, Pf.rs, Pf.rsS, Pf.rsV, rsAll, rsD, keyD, datS, datsS, setS_s, setS_dv, setS_ol, setS_dat, setS_none, setS_olst, setS_rlst, setS_fdic, setS_odic, gN, gT, gs0, gsC, lenIs, binD, addD, subD, mulD, fdivD, modD, cmpD, ordD, isD, isN, isiD, at_l, at_t, fn_lenL, fn_lenT, fn_max2, fn_abs, fn_int, fn_intb, intV, seq_l, seq_t, lstV, fApp, fAugD, fAugI, olS, odS, odH, inS, getElem_s, np_is_number, c1, okE, endV, outs, ownB]
def v1 (tp : Top) (r : Row) (t : Nat) : Bool := decide (cnt r t = tm tp t) && (gaps r t).all (gok tp t)
theorem is_back_row_ok (n : Nat) {tp : Top} (ht : tp.length ≤ 3) {p : Nat} (hp : p ≤ 8) {d : D} (hd : Bt d) : ((Y (n + 3)).f 9).2 [.dat (td tp), .dat (.int (p : Int)), .dat d] = some (.bool (ibr tp p d), [.dat (td tp), .dat (.int (p : Int)), .dat d]) := by
  rw [f_is_back_row]
  rcases hd with rfl | ⟨xs, rfl⟩ | ⟨ds, rfl, hl, he⟩
  · refine fb_ret (en' := [some (.dat (td tp)), some (.dat (.int (p : Int))), some (.dat .none), none, none, none, none, none, none]) rfl (B_ret ?_) rfl
    simp [evB, evS, evE, evL, evO, evOs, evEs, evT, evTs, evI, evC, evP, evDd, evPs, evWs, evG, evGs, fSeq2, aft, fNext, fRet, fIf, fAsg, fAsgL, fAsgT, fAsgD, fPar, fWv, fWl, fW0, setWs, wiS, fLit, fVar, Pf.slotAt, varS, fBin, fNeg, negD, fCmp, fChain, fAnd, fOr, fNot, fBool, boolS, fTest, fIte, fAt, fAtD, fCut, fPart, fNoPart, fOs, fOs0, fFn, fVs, fVs0, fTup, fFresh, fDisp, fTupOf, fListOf, fIsi, fCall, fCallW, fVal, fSlotC, isSet, Pf.rs, Pf.rsS, Pf.rsV, rsAll, rsD, keyD, datS, datsS, setS_s, setS_dv, setS_ol, setS_dat, setS_none, setS_olst, setS_rlst, setS_fdic, setS_odic, gN, gT, gs0, gsC, lenIs, binD, addD, subD, mulD, fdivD, modD, cmpD, ordD, isD, isN, isiD, at_l, at_t, fn_lenL, fn_lenT, fn_max2, fn_abs, fn_int, fn_intb, intV, seq_l, seq_t, lstV, fApp, fAugD, fAugI, olS, odS, odH, inS, getElem_s, List.replicate, ibr]
  · refine fb_ret (en' := [some (.dat (td tp)), some (.dat (.int (p : Int))), some (.dat (.list xs)), none, none, none, none, none, none]) rfl (B_ret ?_) rfl
    simp [evB, evS, evE, evL, evO, evOs, evEs, evT, evTs, evI, evC, evP, evDd, evPs, evWs, evG, evGs, fSeq2, aft, fNext, fRet, fIf, fAsg, fAsgL, fAsgT, fAsgD, fPar, fWv, fWl, fW0, setWs, wiS, fLit, fVar, Pf.slotAt, varS, fBin, fNeg, negD, fCmp, fChain, fAnd, fOr, fNot, fBool, boolS, fTest, fIte, fAt, fAtD, fCut, fPart, fNoPart, fOs, fOs0, fFn, fVs, fVs0, fTup, fFresh, fDisp, fTupOf, fListOf, fIsi, fCall, fCallW, fVal, fSlotC, isSet, Pf.rs, Pf.rsS, Pf.rsV, rsAll, rsD, keyD, datS, datsS, setS_s, setS_dv, setS_ol, setS_dat, setS_none, setS_olst, setS_rlst, setS_fdic, setS_odic, gN, gT, gs0, gsC, lenIs, binD, addD, subD, mulD, fdivD, modD, cmpD, ordD, isD, isN, isiD, at_l, at_t, fn_lenL, fn_lenT, fn_max2, fn_abs, fn_int, fn_intb, intV, seq_l, seq_t, lstV, fApp, fAugD, fAugI, olS, odS, odH, inS, getElem_s, List.replicate, ibr]
  · have e0 := eqD_int (ds.length : Int) (p : Int)
    by_cases hlp : ds.length = p
    rotate_left
    · rw [decide_eq_false (by omega)] at e0
      refine fb_ret (en' := [some (.dat (td tp)), some (.dat (.int (p : Int))), some (.dat (.tuple ds)), none, none, none, none, none, none]) rfl (B_ret ?_) rfl
      simp [evB, evS, evE, evL, evO, evOs, evEs, evT, evTs, evI, evC, evP, evDd, evPs, evWs, evG, evGs, fSeq2, aft, fNext, fRet, fIf, fAsg, fAsgL, fAsgT, fAsgD, fPar, fWv, fWl, fW0, setWs, wiS, fLit, fVar, Pf.slotAt, varS, fBin, fNeg, negD, fCmp, fChain, fAnd, fOr, fNot, fBool, boolS, fTest, fIte, fAt, fAtD, fCut, fPart, fNoPart, fOs, fOs0, fFn, fVs, fVs0, fTup, fFresh, fDisp, fTupOf, fListOf, fIsi, fCall, fCallW, fVal, fSlotC, isSet, Pf.rs, Pf.rsS, Pf.rsV, rsAll, rsD, keyD, datS, datsS, setS_s, setS_dv, setS_ol, setS_dat, setS_none, setS_olst, setS_rlst, setS_fdic, setS_odic, gN, gT, gs0, gsC, lenIs, binD, addD, subD, mulD, fdivD, modD, cmpD, ordD, isD, isN, isiD, at_l, at_t, fn_lenL, fn_lenT, fn_max2, fn_abs, fn_int, fn_intb, intV, seq_l, seq_t, lstV, fApp, fAugD, fAugI, olS, odS, odH, inS, getElem_s, List.replicate, e0, ibr, hlp]
    rw [decide_eq_true (by omega)] at e0
    have hcomp := comp_map (vs := [7]) (bd := evG (.name 7)) (cond := evC (Y (n + 2)) c_is_back_row_1c) (elt := evE (Y (n + 2)) c_is_back_row_1e) (f := fun x : D => x) (g := fun x : D => PyData.bool (okE tp.length x)) (p := fun _ => true) (en := [some (.dat (td tp)), some (.dat (.int (p : Int))), some (.dat (.tuple ds)), none, none, none, none, none, none]) ds fun x hx => by
      refine ⟨[some (.dat (td tp)), some (.dat (.int (p : Int))), some (.dat (.tuple ds)), none, none, none, none, some (.dat x), none], [some (.dat (td tp)), some (.dat (.int (p : Int))), some (.dat (.tuple ds)), none, none, none, none, some (.dat x), none], rfl, rfl, ?_⟩
      rw [if_pos rfl]
      refine ⟨[some (.dat (td tp)), some (.dat (.int (p : Int))), some (.dat (.tuple ds)), none, none, none, none, some (.dat x), none], ?_, rfl⟩
      have hlt := fn_len_td tp
      rcases he x hx with rfl | hx'
      · simp [c_is_back_row_1e, evB, evS, evE, evL, evO, evOs, evEs, evT, evTs, evI, evC, evP, evDd, evPs, evWs, evG, evGs, fSeq2, aft, fNext, fRet, fIf, fAsg, fAsgL, fAsgT, fAsgD, fPar, fWv, fWl, fW0, setWs, wiS, fLit, fVar, Pf.slotAt, varS, fBin, fNeg, negD, fCmp, fChain, fAnd, fOr, fNot, fBool, boolS, fTest, fIte, fAt, fAtD, fCut, fPart, fNoPart, fOs, fOs0, fFn, fVs, fVs0, fTup, fFresh, fDisp, fTupOf, fListOf, fIsi, fCall, fCallW, fVal, fSlotC, isSet, Pf.rs, Pf.rsS, Pf.rsV, rsAll, rsD, keyD, datS, datsS, setS_s, setS_dv, setS_ol, setS_dat, setS_none, setS_olst, setS_rlst, setS_fdic, setS_odic, gN, gT, gs0, gsC, lenIs, binD, addD, subD, mulD, fdivD, modD, cmpD, ordD, isD, isN, isiD, at_l, at_t, fn_lenL, fn_lenT, fn_max2, fn_abs, fn_int, fn_intb, intV, seq_l, seq_t, lstV, fApp, fAugD, fAugI, olS, odS, odH, inS, getElem_s, okE]
      · have c1 := is_below_ok n hx' tp.length
        have hn : isN x = false := by rcases hx' with ⟨_, rfl⟩ | ⟨_, rfl⟩ <;> rfl
        generalize okE tp.length x = b at *
        simp [c_is_back_row_1e, evB, evS, evE, evL, evO, evOs, evEs, evT, evTs, evI, evC, evP, evDd, evPs, evWs, evG, evGs, fSeq2, aft, fNext, fRet, fIf, fAsg, fAsgL, fAsgT, fAsgD, fPar, fWv, fWl, fW0, setWs, wiS, fLit, fVar, Pf.slotAt, varS, fBin, fNeg, negD, fCmp, fChain, fAnd, fOr, fNot, fBool, boolS, fTest, fIte, fAt, fAtD, fCut, fPart, fNoPart, fOs, fOs0, fFn, fVs, fVs0, fTup, fFresh, fDisp, fTupOf, fListOf, fIsi, fCall, fCallW, fVal, fSlotC, isSet, Pf.rs, Pf.rsS, Pf.rsV, rsAll, rsD, keyD, datS, datsS, setS_s, setS_dv, setS_ol, setS_dat, setS_none, setS_olst, setS_rlst, setS_fdic, setS_odic, gN, gT, gs0, gsC, lenIs, binD, add_ii, subD, mulD, fdivD, modD, cmpD, ordD, isD, isNn, isNi, isNb, isNt, isNl, isiD, at_l, at_t, fn_lenL, fn_lenT, fn_max2, fn_abs, fn_int, fn_intb, intV, seq_l, seq_t, lstV, fApp, fAugD, fAugI, olS, odS, odH, inS, getElem_s, hn, hlt, np_is_below, c1]
    rw [List.filter_eq_self.mpr fun _ _ => rfl, show ds.map (fun x : D => x) = ds from List.map_id _] at hcomp
    have hc : evL (Y (n + 2)) c_is_back_row_1 [some (.dat (td tp)), some (.dat (.int (p : Int))), some (.dat (.tuple ds)), none, none, none, none, none, none] = some (ds.map fun x : D => PyData.bool (okE tp.length x), [some (.dat (td tp)), some (.dat (.int (p : Int))), some (.dat (.tuple ds)), none, none, none, none, none, none]) := by
      unfold c_is_back_row_1
      refine (comp_ev (ds := ds) (en1 := [some (.dat (td tp)), some (.dat (.int (p : Int))), some (.dat (.tuple ds)), none, none, none, none, none, none]) (en2 := [some (.dat (td tp)), some (.dat (.int (p : Int))), some (.dat (.tuple ds)), none, none, none, none, none, none]) (r := ds.map fun x : D => PyData.bool (okE tp.length x)) ?_ ?_ ?_).trans rfl
      · unfold c_is_back_row_1i
        rw [evI]; unfold fSeq
        simp [evB, evS, evE, evL, evO, evOs, evEs, evT, evTs, evI, evC, evP, evDd, evPs, evWs, evG, evGs, fSeq2, aft, fNext, fRet, fIf, fAsg, fAsgL, fAsgT, fAsgD, fPar, fWv, fWl, fW0, setWs, wiS, fLit, fVar, Pf.slotAt, varS, fBin, fNeg, negD, fCmp, fChain, fAnd, fOr, fNot, fBool, boolS, fTest, fIte, fAt, fAtD, fCut, fPart, fNoPart, fOs, fOs0, fFn, fVs, fVs0, fTup, fFresh, fDisp, fTupOf, fListOf, fIsi, fCall, fCallW, fVal, fSlotC, isSet, Pf.rs, Pf.rsS, Pf.rsV, rsAll, rsD, keyD, datS, datsS, setS_s, setS_dv, setS_ol, setS_dat, setS_none, setS_olst, setS_rlst, setS_fdic, setS_odic, gN, gT, gs0, gsC, lenIs, binD, addD, subD, mulD, fdivD, modD, cmpD, ordD, isD, isN, isiD, at_l, at_t, fn_lenL, fn_lenT, fn_max2, fn_abs, fn_int, fn_intb, intV, seq_l, seq_t, lstV, fApp, fAugD, fAugI, olS, odS, odH, inS, getElem_s]
      · unfold lim; omega
      · exact hcomp
    have hall := all_bools ds (okE tp.length)
    generalize (ds.map fun x : D => PyData.bool (okE tp.length x)) = bs at *
    cases hok : ds.all (okE tp.length) with
    | false =>
      rw [hok] at hall
      refine fb_ret (en' := [some (.dat (td tp)), some (.dat (.int (p : Int))), some (.dat (.tuple ds)), none, none, none, none, none, none]) rfl (B_next (en1 := [some (.dat (td tp)), some (.dat (.int (p : Int))), some (.dat (.tuple ds)), none, none, none, none, none, none]) ?_ (B_ret ?_)) rfl
      · simp [evB, evS, evE, evL, evO, evOs, evEs, evT, evTs, evI, evC, evP, evDd, evPs, evWs, evG, evGs, fSeq2, aft, fNext, fRet, fIf, fAsg, fAsgL, fAsgT, fAsgD, fPar, fWv, fWl, fW0, setWs, wiS, fLit, fVar, Pf.slotAt, varS, fBin, fNeg, negD, fCmp, fChain, fAnd, fOr, fNot, fBool, boolS, fTest, fIte, fAt, fAtD, fCut, fPart, fNoPart, fOs, fOs0, fFn, fVs, fVs0, fTup, fFresh, fDisp, fTupOf, fListOf, fIsi, fCall, fCallW, fVal, fSlotC, isSet, Pf.rs, Pf.rsS, Pf.rsV, rsAll, rsD, keyD, datS, datsS, setS_s, setS_dv, setS_ol, setS_dat, setS_none, setS_olst, setS_rlst, setS_fdic, setS_odic, gN, gT, gs0, gsC, lenIs, binD, addD, subD, mulD, fdivD, modD, cmpD, ordD, isD, isN, isiD, at_l, at_t, fn_lenL, fn_lenT, fn_max2, fn_abs, fn_int, fn_intb, intV, seq_l, seq_t, lstV, fApp, fAugD, fAugI, olS, odS, odH, inS, getElem_s, List.replicate, e0]
      · simp [evB, evS, evE, evL, evO, evOs, evEs, evT, evTs, evI, evC, evP, evDd, evPs, evWs, evG, evGs, fSeq2, aft, fNext, fRet, fIf, fAsg, fAsgL, fAsgT, fAsgD, fPar, fWv, fWl, fW0, setWs, wiS, fLit, fVar, Pf.slotAt, varS, fBin, fNeg, negD, fCmp, fChain, fAnd, fOr, fNot, fBool, boolS, fTest, fIte, fAt, fAtD, fCut, fPart, fNoPart, fOs, fOs0, fFn, fVs, fVs0, fTup, fFresh, fDisp, fTupOf, fListOf, fIsi, fCall, fCallW, fVal, fSlotC, isSet, Pf.rs, Pf.rsS, Pf.rsV, rsAll, rsD, keyD, datS, datsS, setS_s, setS_dv, setS_ol, setS_dat, setS_none, setS_olst, setS_rlst, setS_fdic, setS_odic, gN, gT, gs0, gsC, lenIs, binD, addD, subD, mulD, fdivD, modD, cmpD, ordD, isD, isN, isiD, at_l, at_t, fn_lenL, fn_lenT, fn_max2, fn_abs, fn_int, fn_intb, intV, seq_l, seq_t, lstV, fApp, fAugD, fAugI, olS, odS, odH, inS, getElem_s, hc, hall, ibr, hok]
    | true =>
      rw [hok] at hall
      obtain ⟨r, hr⟩ : ∃ r, r = ds.map dn := ⟨_, rfl⟩
      have hds : ds = r.map od := by rw [hr]; exact (dn_od hok he).symm
      have hrl : r.length = ds.length := by rw [hr, List.length_map]
      have hib : ibr tp p (.tuple ds) = valid tp r := by
        show (decide (ds.length = p) && (ds.all (okE tp.length) && valid tp (ds.map dn))) = _
        rw [decide_eq_true hlp, hok, ← hr]
        rfl
      rw [hib]
      have hR : PyData.tuple ds = rd r := by rw [hds]; rfl
      let E0 : Option D → Option D → Option D → Option D → En := fun o3 o4 o5 o6 => [some (.dat (td tp)), some (.dat (.int (p : Int))), some (.dat (rd r)), o3.map SV.dat, o4.map SV.dat, o5.map SV.dat, o6.map SV.dat, none, none]
      have hE : ∀ o3 o4 o5 o6, E0 o3 o4 o5 o6 = [some (.dat (td tp)), some (.dat (.int (p : Int))), some (.dat (rd r)), o3.map SV.dat, o4.map SV.dat, o5.map SV.dat, o6.map SV.dat, none, none] := fun _ _ _ _ => rfl
      obtain ⟨fl, en', h1, h2⟩ := loop_ret (bd := evG (.name 3)) (body := evB (Y (n + 2)) b_is_back_row_1) (P := fun i en => ((List.range i).all (v1 tp r)) = true ∧ ∃ o3 o4 o5 o6, en = E0 o3 o4 o5 o6) (R := fun v en => v = .bool false ∧ valid tp r = false ∧ ∃ o3 o4 o5 o6, en = E0 o3 o4 o5 o6) (rngD 0 tp.length) 0 (E0 none none none none) ⟨rfl, none, none, none, none, rfl⟩ fun j d en hd hP => by
        obtain ⟨hP, o3, o4, o5, o6, rfl⟩ := hP
        obtain ⟨hj, rfl⟩ := rngD_at hd
        rw [Nat.zero_add] at hP ⊢
        rw [Int.zero_add]
        have a1 := atD_td hj
        have c1 := gaps_of_lv (lvm := n + 2) (by omega) (r := r) (by omega) j
        have c2 := cnt_rd r j
        have hsq := seq_rd r
        have hisl := isL_rd r
        have e1 := eqD_int (cnt r j : Int) (tm tp j : Int)
        have e2 : decide ((cnt r j : Int) = (tm tp j : Int)) = decide (cnt r j = tm tp j) := decide_eq_decide.mpr (by omega)
        rw [e2] at e1
        have hgl : (gaps r j).length ≤ 10 := by
          unfold gaps
          rw [dif_len]
          have := pos_len r j
          omega
        have hcomp2 := comp_map (vs := [8]) (bd := evG (.name 8)) (cond := evC (Y (n + 2)) c_is_back_row_2c) (elt := evE (Y (n + 2)) c_is_back_row_2e) (f := PyData.int) (g := fun g : Int => PyData.bool (gok tp j g)) (p := fun _ => true) (en := E0 (some (.int (j : Int))) (some (.int (tm tp j : Int))) (some (.int (le' tp j : Int))) (some (.int (mo tp j : Int)))) (gaps r j) fun g hg => by
          refine ⟨(E0 (some (.int (j : Int))) (some (.int (tm tp j : Int))) (some (.int (le' tp j : Int))) (some (.int (mo tp j : Int)))).set 8 (some (.dat (.int g))), (E0 (some (.int (j : Int))) (some (.int (tm tp j : Int))) (some (.int (le' tp j : Int))) (some (.int (mo tp j : Int)))).set 8 (some (.dat (.int g))), rfl, rfl, ?_⟩
          rw [if_pos rfl]
          refine ⟨(E0 (some (.int (j : Int))) (some (.int (tm tp j : Int))) (some (.int (le' tp j : Int))) (some (.int (mo tp j : Int)))).set 8 (some (.dat (.int g))), ?_, rfl⟩
          unfold gok
          by_cases y1 : (le' tp j : Int) ≤ g
          · by_cases y2 : g ≤ (mo tp j : Int)
            · simp [c_is_back_row_2e, evB, evS, evE, evL, evO, evOs, evEs, evT, evTs, evI, evC, evP, evDd, evPs, evWs, evG, evGs, fSeq2, aft, fNext, fRet, fIf, fAsg, fAsgL, fAsgT, fAsgD, fPar, fWv, fWl, fW0, setWs, wiS, fLit, fVar, Pf.slotAt, varS, fBin, fNeg, negD, fCmp, fChain, fAnd, fOr, fNot, fBool, boolS, fTest, fIte, fAt, fAtD, fCut, fPart, fNoPart, fOs, fOs0, fFn, fVs, fVs0, fTup, fFresh, fDisp, fTupOf, fListOf, fIsi, fCall, fCallW, fVal, fSlotC, isSet, Pf.rs, Pf.rsS, Pf.rsV, rsAll, rsD, keyD, datS, datsS, setS_s, setS_dv, setS_ol, setS_dat, setS_none, setS_olst, setS_rlst, setS_fdic, setS_odic, gN, gT, gs0, gsC, lenIs, binD, addD, subD, mulD, fdivD, modD, cmpD, ordD, isD, isN, isiD, at_l, at_t, fn_lenL, fn_lenT, fn_max2, fn_abs, fn_int, fn_intb, intV, seq_l, seq_t, lstV, fApp, fAugD, fAugI, olS, odS, odH, inS, getElem_s, hE, y1, y2]
            · simp [c_is_back_row_2e, evB, evS, evE, evL, evO, evOs, evEs, evT, evTs, evI, evC, evP, evDd, evPs, evWs, evG, evGs, fSeq2, aft, fNext, fRet, fIf, fAsg, fAsgL, fAsgT, fAsgD, fPar, fWv, fWl, fW0, setWs, wiS, fLit, fVar, Pf.slotAt, varS, fBin, fNeg, negD, fCmp, fChain, fAnd, fOr, fNot, fBool, boolS, fTest, fIte, fAt, fAtD, fCut, fPart, fNoPart, fOs, fOs0, fFn, fVs, fVs0, fTup, fFresh, fDisp, fTupOf, fListOf, fIsi, fCall, fCallW, fVal, fSlotC, isSet, Pf.rs, Pf.rsS, Pf.rsV, rsAll, rsD, keyD, datS, datsS, setS_s, setS_dv, setS_ol, setS_dat, setS_none, setS_olst, setS_rlst, setS_fdic, setS_odic, gN, gT, gs0, gsC, lenIs, binD, addD, subD, mulD, fdivD, modD, cmpD, ordD, isD, isN, isiD, at_l, at_t, fn_lenL, fn_lenT, fn_max2, fn_abs, fn_int, fn_intb, intV, seq_l, seq_t, lstV, fApp, fAugD, fAugI, olS, odS, odH, inS, getElem_s, hE, y1, y2]
          · simp [c_is_back_row_2e, evB, evS, evE, evL, evO, evOs, evEs, evT, evTs, evI, evC, evP, evDd, evPs, evWs, evG, evGs, fSeq2, aft, fNext, fRet, fIf, fAsg, fAsgL, fAsgT, fAsgD, fPar, fWv, fWl, fW0, setWs, wiS, fLit, fVar, Pf.slotAt, varS, fBin, fNeg, negD, fCmp, fChain, fAnd, fOr, fNot, fBool, boolS, fTest, fIte, fAt, fAtD, fCut, fPart, fNoPart, fOs, fOs0, fFn, fVs, fVs0, fTup, fFresh, fDisp, fTupOf, fListOf, fIsi, fCall, fCallW, fVal, fSlotC, isSet, Pf.rs, Pf.rsS, Pf.rsV, rsAll, rsD, keyD, datS, datsS, setS_s, setS_dv, setS_ol, setS_dat, setS_none, setS_olst, setS_rlst, setS_fdic, setS_odic, gN, gT, gs0, gsC, lenIs, binD, addD, subD, mulD, fdivD, modD, cmpD, ordD, isD, isN, isiD, at_l, at_t, fn_lenL, fn_lenT, fn_max2, fn_abs, fn_int, fn_intb, intV, seq_l, seq_t, lstV, fApp, fAugD, fAugI, olS, odS, odH, inS, getElem_s, hE, y1]
        rw [List.filter_eq_self.mpr fun _ _ => rfl] at hcomp2
        have hc2 : evL (Y (n + 2)) c_is_back_row_2 (E0 (some (.int (j : Int))) (some (.int (tm tp j : Int))) (some (.int (le' tp j : Int))) (some (.int (mo tp j : Int)))) = some ((gaps r j).map fun g : Int => PyData.bool (gok tp j g), E0 (some (.int (j : Int))) (some (.int (tm tp j : Int))) (some (.int (le' tp j : Int))) (some (.int (mo tp j : Int)))) := by
          unfold c_is_back_row_2
          refine (comp_ev (ds := (gaps r j).map PyData.int) (en1 := E0 (some (.int (j : Int))) (some (.int (tm tp j : Int))) (some (.int (le' tp j : Int))) (some (.int (mo tp j : Int)))) (en2 := E0 (some (.int (j : Int))) (some (.int (tm tp j : Int))) (some (.int (le' tp j : Int))) (some (.int (mo tp j : Int)))) (r := (gaps r j).map fun g : Int => PyData.bool (gok tp j g)) ?_ ?_ ?_).trans rfl
          · unfold c_is_back_row_2i il at *
            rw [evI]; unfold fSeq
            generalize (gaps r j).map PyData.int = gs at *
            simp [evB, evS, evE, evL, evO, evOs, evEs, evT, evTs, evI, evC, evP, evDd, evPs, evWs, evG, evGs, fSeq2, aft, fNext, fRet, fIf, fAsg, fAsgL, fAsgT, fAsgD, fPar, fWv, fWl, fW0, setWs, wiS, fLit, fVar, Pf.slotAt, varS, fBin, fNeg, negD, fCmp, fChain, fAnd, fOr, fNot, fBool, boolS, fTest, fIte, fAt, fAtD, fCut, fPart, fNoPart, fOs, fOs0, fFn, fVs, fVs0, fTup, fFresh, fDisp, fTupOf, fListOf, fIsi, fCall, fCallW, fVal, fSlotC, isSet, Pf.rs, Pf.rsS, Pf.rsV, rsAll, rsD, keyD, datS, datsS, setS_s, setS_dv, setS_ol, setS_dat, setS_none, setS_olst, setS_rlst, setS_fdic, setS_odic, gN, gT, gs0, gsC, lenIs, binD, addD, subD, mulD, fdivD, modD, cmpD, ordD, isD, isN, isiD, at_l, at_t, fn_lenL, fn_lenT, fn_max2, fn_abs, fn_int, fn_intb, intV, seq_l, seq_t, lstV, fApp, fAugD, fAugI, olS, odS, odH, inS, getElem_s, hE, np_gaps_of, c1]
          · rw [List.length_map]; unfold lim; omega
          · exact hcomp2
        have hall2 := all_bools (gaps r j) (gok tp j)
        have key : evB (Y (n + 2)) b_is_back_row_1 (E0 (some (.int (j : Int))) o4 o5 o6) = some (if v1 tp r j = true then .next else .ret (.bool false), E0 (some (.int (j : Int))) (some (.int (tm tp j : Int))) (some (.int (le' tp j : Int))) (some (.int (mo tp j : Int)))) := by
          refine B_next (en1 := E0 (some (.int (j : Int))) (some (.int (tm tp j : Int))) (some (.int (le' tp j : Int))) (some (.int (mo tp j : Int)))) ?_ ?_
          · simp [evB, evS, evE, evL, evO, evOs, evEs, evT, evTs, evI, evC, evP, evDd, evPs, evWs, evG, evGs, fSeq2, aft, fNext, fRet, fIf, fAsg, fAsgL, fAsgT, fAsgD, fPar, fWv, fWl, fW0, setWs, wiS, fLit, fVar, Pf.slotAt, varS, fBin, fNeg, negD, fCmp, fChain, fAnd, fOr, fNot, fBool, boolS, fTest, fIte, fAt, fAtD, fCut, fPart, fNoPart, fOs, fOs0, fFn, fVs, fVs0, fTup, fFresh, fDisp, fTupOf, fListOf, fIsi, fCall, fCallW, fVal, fSlotC, isSet, Pf.rs, Pf.rsS, Pf.rsV, rsAll, rsD, keyD, datS, datsS, setS_s, setS_dv, setS_ol, setS_dat, setS_none, setS_olst, setS_rlst, setS_fdic, setS_odic, gN, gT, gs0, gsC, lenIs, binD, addD, subD, mulD, fdivD, modD, cmpD, ordD, isD, isN, isiD, at_l, at_t, fn_lenL, fn_lenT, fn_max2, fn_abs, fn_int, fn_intb, intV, seq_l, seq_t, lstV, fApp, fAugD, fAugI, olS, odS, odH, inS, getElem_s, hE, a1]
          · unfold v1
            generalize ((gaps r j).map fun g : Int => PyData.bool (gok tp j g)) = gs at *
            generalize (gaps r j).all (gok tp j) = ga at *
            generalize (r.map od) = zs at *
            unfold E0 at hc2 ⊢
            simp only [Option.map_some] at hc2
            by_cases y : cnt r j = tm tp j
            · rw [decide_eq_true y] at e1 ⊢
              cases ga with
              | true => simp [evB, evS, evE, evL, evO, evOs, evEs, evT, evTs, evI, evC, evP, evDd, evPs, evWs, evG, evGs, fSeq2, aft, fNext, fRet, fIf, fAsg, fAsgL, fAsgT, fAsgD, fPar, fWv, fWl, fW0, setWs, wiS, fLit, fVar, Pf.slotAt, varS, fBin, fNeg, negD, fCmp, fChain, fAnd, fOr, fNot, fBool, boolS, fTest, fIte, fAt, fAtD, fCut, fPart, fNoPart, fOs, fOs0, fFn, fVs, fVs0, fTup, fFresh, fDisp, fTupOf, fListOf, fIsi, fCall, fCallW, fVal, fSlotC, isSet, Pf.rs, Pf.rsS, Pf.rsV, rsAll, rsD, keyD, datS, datsS, setS_s, setS_dv, setS_ol, setS_dat, setS_none, setS_olst, setS_rlst, setS_fdic, setS_odic, gN, gT, gs0, gsC, lenIs, binD, addD, subD, mulD, fdivD, modD, cmpD, ordD, isD, isN, isiD, at_l, at_t, fn_lenL, fn_lenT, fn_max2, fn_abs, fn_int, fn_intb, intV, seq_l, seq_t, lstV, fApp, fAugD, fAugI, olS, odS, odH, inS, getElem_s, fCntG, hsq, hisl, c2, e1, hc2, hall2]
              | false => simp [evB, evS, evE, evL, evO, evOs, evEs, evT, evTs, evI, evC, evP, evDd, evPs, evWs, evG, evGs, fSeq2, aft, fNext, fRet, fIf, fAsg, fAsgL, fAsgT, fAsgD, fPar, fWv, fWl, fW0, setWs, wiS, fLit, fVar, Pf.slotAt, varS, fBin, fNeg, negD, fCmp, fChain, fAnd, fOr, fNot, fBool, boolS, fTest, fIte, fAt, fAtD, fCut, fPart, fNoPart, fOs, fOs0, fFn, fVs, fVs0, fTup, fFresh, fDisp, fTupOf, fListOf, fIsi, fCall, fCallW, fVal, fSlotC, isSet, Pf.rs, Pf.rsS, Pf.rsV, rsAll, rsD, keyD, datS, datsS, setS_s, setS_dv, setS_ol, setS_dat, setS_none, setS_olst, setS_rlst, setS_fdic, setS_odic, gN, gT, gs0, gsC, lenIs, binD, addD, subD, mulD, fdivD, modD, cmpD, ordD, isD, isN, isiD, at_l, at_t, fn_lenL, fn_lenT, fn_max2, fn_abs, fn_int, fn_intb, intV, seq_l, seq_t, lstV, fApp, fAugD, fAugI, olS, odS, odH, inS, getElem_s, fCntG, hsq, hisl, c2, e1, hc2, hall2]
            · rw [decide_eq_false y] at e1 ⊢
              simp [evB, evS, evE, evL, evO, evOs, evEs, evT, evTs, evI, evC, evP, evDd, evPs, evWs, evG, evGs, fSeq2, aft, fNext, fRet, fIf, fAsg, fAsgL, fAsgT, fAsgD, fPar, fWv, fWl, fW0, setWs, wiS, fLit, fVar, Pf.slotAt, varS, fBin, fNeg, negD, fCmp, fChain, fAnd, fOr, fNot, fBool, boolS, fTest, fIte, fAt, fAtD, fCut, fPart, fNoPart, fOs, fOs0, fFn, fVs, fVs0, fTup, fFresh, fDisp, fTupOf, fListOf, fIsi, fCall, fCallW, fVal, fSlotC, isSet, Pf.rs, Pf.rsS, Pf.rsV, rsAll, rsD, keyD, datS, datsS, setS_s, setS_dv, setS_ol, setS_dat, setS_none, setS_olst, setS_rlst, setS_fdic, setS_odic, gN, gT, gs0, gsC, lenIs, binD, addD, subD, mulD, fdivD, modD, cmpD, ordD, isD, isN, isiD, at_l, at_t, fn_lenL, fn_lenT, fn_max2, fn_abs, fn_int, fn_intb, intV, seq_l, seq_t, lstV, fApp, fAugD, fAugI, olS, odS, odH, inS, getElem_s, fCntG, hsq, hisl, c2, e1]
        refine ⟨_, _, _, gN_dv rfl, key, ?_⟩
        cases hv : v1 tp r j with
        | true =>
          refine .inl ⟨if_pos rfl, ?_, _, _, _, _, rfl⟩
          rw [List.range_succ, List.all_append, hP]
          simp [hv]
        | false =>
          refine .inr ⟨_, if_neg (by decide), rfl, ?_, _, _, _, _, rfl⟩
          refine Bool.eq_false_iff.mpr fun q => ?_
          have := List.all_eq_true.mp q j (List.mem_range.mpr hj)
          have hv' : (decide (cnt r j = tm tp j) && (gaps r j).all (gok tp j)) = false := hv
          rw [hv'] at this
          cases this
      rw [rngD_len, Nat.zero_add] at h2
      have hI : evI (Y (n + 2)) (.rng1 (.cons (.val (.fn .len (.cons (.slot 0) .nil))) .nil)) (E0 none none none none) = some (rngD 0 tp.length, E0 none none none none) := rng1_ev (os := [.val (.dat (.int (tp.length : Int)))]) (m := (tp.length : Int)) (by simp [evB, evS, evE, evL, evO, evOs, evEs, evT, evTs, evI, evC, evP, evDd, evPs, evWs, evG, evGs, fSeq2, aft, fNext, fRet, fIf, fAsg, fAsgL, fAsgT, fAsgD, fPar, fWv, fWl, fW0, setWs, wiS, fLit, fVar, Pf.slotAt, varS, fBin, fNeg, negD, fCmp, fChain, fAnd, fOr, fNot, fBool, boolS, fTest, fIte, fAt, fAtD, fCut, fPart, fNoPart, fOs, fOs0, fFn, fVs, fVs0, fTup, fFresh, fDisp, fTupOf, fListOf, fIsi, fCall, fCallW, fVal, fSlotC, isSet, Pf.rs, Pf.rsS, Pf.rsV, rsAll, rsD, keyD, datS, datsS, setS_s, setS_dv, setS_ol, setS_dat, setS_none, setS_olst, setS_rlst, setS_fdic, setS_odic, gN, gT, gs0, gsC, lenIs, binD, addD, subD, mulD, fdivD, modD, cmpD, ordD, isD, isN, isiD, at_l, at_t, fn_lenL, fn_lenT, fn_max2, fn_abs, fn_int, fn_intb, intV, seq_l, seq_t, lstV, fApp, fAugD, fAugI, olS, odS, odH, inS, getElem_s, hE, fn_len_td]) (by simp [evB, evS, evE, evL, evO, evOs, evEs, evT, evTs, evI, evC, evP, evDd, evPs, evWs, evG, evGs, fSeq2, aft, fNext, fRet, fIf, fAsg, fAsgL, fAsgT, fAsgD, fPar, fWv, fWl, fW0, setWs, wiS, fLit, fVar, Pf.slotAt, varS, fBin, fNeg, negD, fCmp, fChain, fAnd, fOr, fNot, fBool, boolS, fTest, fIte, fAt, fAtD, fCut, fPart, fNoPart, fOs, fOs0, fFn, fVs, fVs0, fTup, fFresh, fDisp, fTupOf, fListOf, fIsi, fCall, fCallW, fVal, fSlotC, isSet, Pf.rs, Pf.rsS, Pf.rsV, rsAll, rsD, keyD, datS, datsS, setS_s, setS_dv, setS_ol, setS_dat, setS_none, setS_olst, setS_rlst, setS_fdic, setS_odic, gN, gT, gs0, gsC, lenIs, binD, addD, subD, mulD, fdivD, modD, cmpD, ordD, isD, isN, isiD, at_l, at_t, fn_lenL, fn_lenT, fn_max2, fn_abs, fn_int, fn_intb, intV, seq_l, seq_t, lstV, fApp, fAugD, fAugI, olS, odS, odH, inS, getElem_s]) rfl (by omega)
      have s1 : evS (Y (n + 2)) (.ife (.or (.cons (.not (.val (.isi .tuple (.slot 2)))) (.one (.cmp .ne (.val (.fn .len (.cons (.slot 2) .nil))) (.slot 1))))) (.cons (.ret (.lit (.bool false))) .nil) .nil) [some (.dat (td tp)), some (.dat (.int (p : Int))), some (.dat (.tuple ds)), none, none, none, none, none, none] = some (.next, [some (.dat (td tp)), some (.dat (.int (p : Int))), some (.dat (.tuple ds)), none, none, none, none, none, none]) := by
        simp [evB, evS, evE, evL, evO, evOs, evEs, evT, evTs, evI, evC, evP, evDd, evPs, evWs, evG, evGs, fSeq2, aft, fNext, fRet, fIf, fAsg, fAsgL, fAsgT, fAsgD, fPar, fWv, fWl, fW0, setWs, wiS, fLit, fVar, Pf.slotAt, varS, fBin, fNeg, negD, fCmp, fChain, fAnd, fOr, fNot, fBool, boolS, fTest, fIte, fAt, fAtD, fCut, fPart, fNoPart, fOs, fOs0, fFn, fVs, fVs0, fTup, fFresh, fDisp, fTupOf, fListOf, fIsi, fCall, fCallW, fVal, fSlotC, isSet, Pf.rs, Pf.rsS, Pf.rsV, rsAll, rsD, keyD, datS, datsS, setS_s, setS_dv, setS_ol, setS_dat, setS_none, setS_olst, setS_rlst, setS_fdic, setS_odic, gN, gT, gs0, gsC, lenIs, binD, addD, subD, mulD, fdivD, modD, cmpD, ordD, isD, isN, isiD, at_l, at_t, fn_lenL, fn_lenT, fn_max2, fn_abs, fn_int, fn_intb, intV, seq_l, seq_t, lstV, fApp, fAugD, fAugI, olS, odS, odH, inS, getElem_s, e0]
      have s2 : evS (Y (n + 2)) (.ife (.not (.val (.fn .all (.cons (.val (.fresh c_is_back_row_1)) .nil)))) (.cons (.ret (.lit (.bool false))) .nil) .nil) [some (.dat (td tp)), some (.dat (.int (p : Int))), some (.dat (.tuple ds)), none, none, none, none, none, none] = some (.next, [some (.dat (td tp)), some (.dat (.int (p : Int))), some (.dat (.tuple ds)), none, none, none, none, none, none]) := by
        simp [evB, evS, evE, evL, evO, evOs, evEs, evT, evTs, evI, evC, evP, evDd, evPs, evWs, evG, evGs, fSeq2, aft, fNext, fRet, fIf, fAsg, fAsgL, fAsgT, fAsgD, fPar, fWv, fWl, fW0, setWs, wiS, fLit, fVar, Pf.slotAt, varS, fBin, fNeg, negD, fCmp, fChain, fAnd, fOr, fNot, fBool, boolS, fTest, fIte, fAt, fAtD, fCut, fPart, fNoPart, fOs, fOs0, fFn, fVs, fVs0, fTup, fFresh, fDisp, fTupOf, fListOf, fIsi, fCall, fCallW, fVal, fSlotC, isSet, Pf.rs, Pf.rsS, Pf.rsV, rsAll, rsD, keyD, datS, datsS, setS_s, setS_dv, setS_ol, setS_dat, setS_none, setS_olst, setS_rlst, setS_fdic, setS_odic, gN, gT, gs0, gsC, lenIs, binD, addD, subD, mulD, fdivD, modD, cmpD, ordD, isD, isN, isiD, at_l, at_t, fn_lenL, fn_lenT, fn_max2, fn_abs, fn_int, fn_intb, intV, seq_l, seq_t, lstV, fApp, fAugD, fAugI, olS, odS, odH, inS, getElem_s, hc, hall]
      have hst : E0 none none none none = [some (.dat (td tp)), some (.dat (.int (p : Int))), some (.dat (.tuple ds)), none, none, none, none, none, none] := by rw [hR]; rfl
      rw [hR] at s1 s2 ⊢
      rcases h2 with ⟨rfl, hP, o3, o4, o5, o6, rfl⟩ | ⟨v, rfl, hv, hl, o3, o4, o5, o6, rfl⟩
      · refine fb_ret (en' := E0 o3 o4 o5 o6) rfl (B_next s1 (B_next s2 (B_next (for_next hI h1) (B_ret ?_)))) rfl
        have : valid tp r = true := hP
        rw [this]
        simp [evB, evS, evE, evL, evO, evOs, evEs, evT, evTs, evI, evC, evP, evDd, evPs, evWs, evG, evGs, fSeq2, aft, fNext, fRet, fIf, fAsg, fAsgL, fAsgT, fAsgD, fPar, fWv, fWl, fW0, setWs, wiS, fLit, fVar, Pf.slotAt, varS, fBin, fNeg, negD, fCmp, fChain, fAnd, fOr, fNot, fBool, boolS, fTest, fIte, fAt, fAtD, fCut, fPart, fNoPart, fOs, fOs0, fFn, fVs, fVs0, fTup, fFresh, fDisp, fTupOf, fListOf, fIsi, fCall, fCallW, fVal, fSlotC, isSet, Pf.rs, Pf.rsS, Pf.rsV, rsAll, rsD, keyD, datS, datsS, setS_s, setS_dv, setS_ol, setS_dat, setS_none, setS_olst, setS_rlst, setS_fdic, setS_odic, gN, gT, gs0, gsC, lenIs, binD, addD, subD, mulD, fdivD, modD, cmpD, ordD, isD, isN, isiD, at_l, at_t, fn_lenL, fn_lenT, fn_max2, fn_abs, fn_int, fn_intb, intV, seq_l, seq_t, lstV, fApp, fAugD, fAugI, olS, odS, odH, inS, getElem_s, hE]
      · subst hv
        rw [hl]
        exact fb_ret (en' := E0 o3 o4 o5 o6) rfl (B_next s1 (B_next s2 (B_ret (for_any hI h1)))) rfl


theorem is_below_lv {lvm : Nat} (hm0 : 2 ≤ lvm) {d : D} (h : (∃ i, d = .int i) ∨ ∃ b, d = .bool b) (k : Nat) : ((Y lvm).f 1).2 [.dat d, .dat (.int (k : Int))] = some (.bool (okE k d), [.dat d, .dat (.int (k : Int))]) :=
  lvl (P := fun lvm => ((Y lvm).f 1).2 [.dat d, .dat (.int (k : Int))] = some (.bool (okE k d), [.dat d, .dat (.int (k : Int))])) 2 (fun n => is_below_ok n h k) lvm hm0
theorem is_back_row_lv {lvm : Nat} (hm0 : 3 ≤ lvm) {tp : Top} (ht : tp.length ≤ 3) {p : Nat} (hp : p ≤ 8) {d : D} (hd : Bt d) : ((Y lvm).f 9).2 [.dat (td tp), .dat (.int (p : Int)), .dat d] = some (.bool (ibr tp p d), [.dat (td tp), .dat (.int (p : Int)), .dat d]) :=
  lvl (P := fun lvm => ((Y lvm).f 9).2 [.dat (td tp), .dat (.int (p : Int)), .dat d] = some (.bool (ibr tp p d), [.dat (td tp), .dat (.int (p : Int)), .dat d])) 3 (fun n => is_back_row_ok n ht hp hd) lvm hm0
end K31

set_option maxHeartbeats 4000000
namespace K31
open PySem L2 Pf
theorem lgaps_ok (n : Nat) {r : Row} (h : r.length ≤ 10) (t : Nat) : ((Y (n + 1)).f 18).2 [.dat (rd r), .dat (.int (t : Int))] = some (.list (il (gaps r t)), [.dat (rd r), .dat (.int (t : Int))]) := by
  have hcomp := comp_map (vs := [3]) (bd := evG (.name 3)) (cond := evC (Y n) c__law_gaps_1c) (elt := evE (Y n) c__law_gaps_1e) (f := fun i : Nat => PyData.int (i : Int)) (g := fun i : Nat => PyData.int (i : Int)) (p := fun k => decide (r[k]? = some (some t))) (en := [some (.dat (rd r)), some (.dat (.int (t : Int))), none, none]) (List.range r.length) fun k hk => by
    have hk := List.mem_range.mp hk
    have a1 := atD_rd hk
    have e1 := eqD_od r[k] t
    rw [List.getElem?_eq_getElem hk]
    have e2 : decide (some r[k] = some (some t)) = decide (r[k] = some t) := decide_eq_decide.mpr (by rw [Option.some.injEq])
    rw [e2]
    generalize decide (r[k] = some t) = b at *
    refine ⟨[some (.dat (rd r)), some (.dat (.int (t : Int))), none, some (.dat (.int (k : Int)))], [some (.dat (rd r)), some (.dat (.int (t : Int))), none, some (.dat (.int (k : Int)))], rfl, ?_, ?_⟩
    · cases hb : b with
      | true =>
        have hn : isN (od r[k]) = false := by
          cases hx : r[k] with
          | none => rw [hx, hb, eqD_od] at e1; simp at e1
          | some _ => rfl
        rw [hb] at e1
        simp [c__law_gaps_1c, evB, evS, evE, evL, evO, evOs, evEs, evT, evTs, evI, evC, evP, evDd, evPs, evWs, evG, evGs, fSeq2, aft, fNext, fRet, fIf, fAsg, fAsgL, fAsgT, fAsgD, fPar, fWv, fWl, fW0, setWs, wiS, fLit, fVar, Pf.slotAt, varS, fBin, fNeg, negD, fCmp, fChain, fAnd, fOr, fNot, fBool, boolS, fTest, fIte, fAt, fAtD, fCut, fPart, fNoPart, fOs, fOs0, fFn, fVs, fVs0, fTup, fFresh, fDisp, fTupOf, fListOf, fIsi, fCall, fCallW, fVal, fSlotC, isSet, Pf.rs, Pf.rsS, Pf.rsV, rsAll, rsD, keyD, datS, datsS, setS_s, setS_dv, setS_ol, setS_dat, setS_none, setS_olst, setS_rlst, setS_fdic, setS_odic, gN, gT, gs0, gsC, lenIs, binD, add_ii, subD, mulD, fdivD, modD, cmpD, ordD, isD, isNn, isNi, isNb, isNt, isNl, isiD, at_l, at_t, fn_lenL, fn_lenT, fn_max2, fn_abs, fn_int, fn_intb, intV, seq_l, seq_t, lstV, fApp, fAugD, fAugI, olS, odS, odH, inS, getElem_s, a1, e1, hn]
      | false =>
        rw [hb] at e1
        simp [c__law_gaps_1c, evB, evS, evE, evL, evO, evOs, evEs, evT, evTs, evI, evC, evP, evDd, evPs, evWs, evG, evGs, fSeq2, aft, fNext, fRet, fIf, fAsg, fAsgL, fAsgT, fAsgD, fPar, fWv, fWl, fW0, setWs, wiS, fLit, fVar, Pf.slotAt, varS, fBin, fNeg, negD, fCmp, fChain, fAnd, fOr, fNot, fBool, boolS, fTest, fIte, fAt, fAtD, fCut, fPart, fNoPart, fOs, fOs0, fFn, fVs, fVs0, fTup, fFresh, fDisp, fTupOf, fListOf, fIsi, fCall, fCallW, fVal, fSlotC, isSet, Pf.rs, Pf.rsS, Pf.rsV, rsAll, rsD, keyD, datS, datsS, setS_s, setS_dv, setS_ol, setS_dat, setS_none, setS_olst, setS_rlst, setS_fdic, setS_odic, gN, gT, gs0, gsC, lenIs, binD, add_ii, subD, mulD, fdivD, modD, cmpD, ordD, isD, isNn, isNi, isNb, isNt, isNl, isiD, at_l, at_t, fn_lenL, fn_lenT, fn_max2, fn_abs, fn_int, fn_intb, intV, seq_l, seq_t, lstV, fApp, fAugD, fAugI, olS, odS, odH, inS, getElem_s, a1, e1]
    · split
      · exact ⟨[some (.dat (rd r)), some (.dat (.int (t : Int))), none, some (.dat (.int (k : Int)))], by simp [c__law_gaps_1e, evB, evS, evE, evL, evO, evOs, evEs, evT, evTs, evI, evC, evP, evDd, evPs, evWs, evG, evGs, fSeq2, aft, fNext, fRet, fIf, fAsg, fAsgL, fAsgT, fAsgD, fPar, fWv, fWl, fW0, setWs, wiS, fLit, fVar, Pf.slotAt, varS, fBin, fNeg, negD, fCmp, fChain, fAnd, fOr, fNot, fBool, boolS, fTest, fIte, fAt, fAtD, fCut, fPart, fNoPart, fOs, fOs0, fFn, fVs, fVs0, fTup, fFresh, fDisp, fTupOf, fListOf, fIsi, fCall, fCallW, fVal, fSlotC, isSet, Pf.rs, Pf.rsS, Pf.rsV, rsAll, rsD, keyD, datS, datsS, setS_s, setS_dv, setS_ol, setS_dat, setS_none, setS_olst, setS_rlst, setS_fdic, setS_odic, gN, gT, gs0, gsC, lenIs, binD, addD, subD, mulD, fdivD, modD, cmpD, ordD, isD, isN, isiD, at_l, at_t, fn_lenL, fn_lenT, fn_max2, fn_abs, fn_int, fn_intb, intV, seq_l, seq_t, lstV, fApp, fAugD, fAugI, olS, odS, odH, inS, getElem_s], rfl⟩
      · rfl
  rw [← pos_range t r] at hcomp
  have hc : evL (Y n) c__law_gaps_1 [some (.dat (rd r)), some (.dat (.int (t : Int))), none, none] = some (nl (pos r t), [some (.dat (rd r)), some (.dat (.int (t : Int))), none, none]) := by
    unfold c__law_gaps_1
    refine (comp_ev (ds := rngD 0 r.length) (en1 := [some (.dat (rd r)), some (.dat (.int (t : Int))), none, none]) (en2 := [some (.dat (rd r)), some (.dat (.int (t : Int))), none, none]) (r := nl (pos r t)) ?_ ?_ ?_).trans rfl
    · exact rng1_ev (os := [.val (.dat (.int (r.length : Int)))]) (m := (r.length : Int)) (by simp [evB, evS, evE, evL, evO, evOs, evEs, evT, evTs, evI, evC, evP, evDd, evPs, evWs, evG, evGs, fSeq2, aft, fNext, fRet, fIf, fAsg, fAsgL, fAsgT, fAsgD, fPar, fWv, fWl, fW0, setWs, wiS, fLit, fVar, Pf.slotAt, varS, fBin, fNeg, negD, fCmp, fChain, fAnd, fOr, fNot, fBool, boolS, fTest, fIte, fAt, fAtD, fCut, fPart, fNoPart, fOs, fOs0, fFn, fVs, fVs0, fTup, fFresh, fDisp, fTupOf, fListOf, fIsi, fCall, fCallW, fVal, fSlotC, isSet, Pf.rs, Pf.rsS, Pf.rsV, rsAll, rsD, keyD, datS, datsS, setS_s, setS_dv, setS_ol, setS_dat, setS_none, setS_olst, setS_rlst, setS_fdic, setS_odic, gN, gT, gs0, gsC, lenIs, binD, addD, subD, mulD, fdivD, modD, cmpD, ordD, isD, isN, isiD, at_l, at_t, fn_lenL, fn_lenT, fn_max2, fn_abs, fn_int, fn_intb, intV, seq_l, seq_t, lstV, fApp, fAugD, fAugI, olS, odS, odH, inS, getElem_s, fn_len_rd]) (by simp [evB, evS, evE, evL, evO, evOs, evEs, evT, evTs, evI, evC, evP, evDd, evPs, evWs, evG, evGs, fSeq2, aft, fNext, fRet, fIf, fAsg, fAsgL, fAsgT, fAsgD, fPar, fWv, fWl, fW0, setWs, wiS, fLit, fVar, Pf.slotAt, varS, fBin, fNeg, negD, fCmp, fChain, fAnd, fOr, fNot, fBool, boolS, fTest, fIte, fAt, fAtD, fCut, fPart, fNoPart, fOs, fOs0, fFn, fVs, fVs0, fTup, fFresh, fDisp, fTupOf, fListOf, fIsi, fCall, fCallW, fVal, fSlotC, isSet, Pf.rs, Pf.rsS, Pf.rsV, rsAll, rsD, keyD, datS, datsS, setS_s, setS_dv, setS_ol, setS_dat, setS_none, setS_olst, setS_rlst, setS_fdic, setS_odic, gN, gT, gs0, gsC, lenIs, binD, addD, subD, mulD, fdivD, modD, cmpD, ordD, isD, isN, isiD, at_l, at_t, fn_lenL, fn_lenT, fn_max2, fn_abs, fn_int, fn_intb, intV, seq_l, seq_t, lstV, fApp, fAugD, fAugI, olS, odS, odH, inS, getElem_s]) rfl (by omega)
    · rw [rngD_len]; unfold lim; omega
    · rw [rngD_map]; exact hcomp
  have hpl := pos_len r t
  obtain ⟨l, hl⟩ : ∃ l, l = pos r t := ⟨_, rfl⟩
  rw [← hl] at hc hpl
  have hcomp2 := comp_map (vs := [3]) (bd := evG (.name 3)) (cond := evC (Y n) c__law_gaps_2c) (elt := evE (Y n) c__law_gaps_2e) (f := fun i : Nat => PyData.int (1 + (i : Int))) (g := fun k : Nat => PyData.int ((dif l).getD k 0)) (p := fun _ => true) (en := [some (.dat (rd r)), some (.dat (.int (t : Int))), some (.olst (nl l)), none]) (List.range (dif l).length) fun k hk => by
    have hk := List.mem_range.mp hk
    rw [dif_len] at hk
    have a1 := nl_at (l := l) (k := k) (by omega)
    have a2 := nl_at (l := l) (k := k + 1) (by omega)
    rw [show ((k + 1 : Nat) : Int) = 1 + (k : Int) by omega] at a2
    have e3 : (1 : Int) + (k : Int) - 1 = (k : Int) := by omega
    rw [dif_getD (by omega)]
    generalize nl l = xs at *
    refine ⟨[some (.dat (rd r)), some (.dat (.int (t : Int))), some (.olst xs), some (.dat (.int (1 + (k : Int))))], [some (.dat (rd r)), some (.dat (.int (t : Int))), some (.olst xs), some (.dat (.int (1 + (k : Int))))], rfl, rfl, ?_⟩
    rw [if_pos rfl]
    exact ⟨[some (.dat (rd r)), some (.dat (.int (t : Int))), some (.olst xs), some (.dat (.int (1 + (k : Int))))], by simp [c__law_gaps_2e, evB, evS, evE, evL, evO, evOs, evEs, evT, evTs, evI, evC, evP, evDd, evPs, evWs, evG, evGs, fSeq2, aft, fNext, fRet, fIf, fAsg, fAsgL, fAsgT, fAsgD, fPar, fWv, fWl, fW0, setWs, wiS, fLit, fVar, Pf.slotAt, varS, fBin, fNeg, negD, fCmp, fChain, fAnd, fOr, fNot, fBool, boolS, fTest, fIte, fAt, fAtD, fCut, fPart, fNoPart, fOs, fOs0, fFn, fVs, fVs0, fTup, fFresh, fDisp, fTupOf, fListOf, fIsi, fCall, fCallW, fVal, fSlotC, isSet, Pf.rs, Pf.rsS, Pf.rsV, rsAll, rsD, keyD, datS, datsS, setS_s, setS_dv, setS_ol, setS_dat, setS_none, setS_olst, setS_rlst, setS_fdic, setS_odic, gN, gT, gs0, gsC, lenIs, binD, addD, subD, mulD, fdivD, modD, cmpD, ordD, isD, isN, isiD, at_l, at_t, fn_lenL, fn_lenT, fn_max2, fn_abs, fn_int, fn_intb, intV, seq_l, seq_t, lstV, fApp, fAugD, fAugI, olS, odS, odH, inS, getElem_s, a1, a2, e3], rfl⟩
  rw [List.filter_eq_self.mpr fun _ _ => rfl, range_getD] at hcomp2
  have hnl := nl_len l
  have hc2 : evL (Y n) c__law_gaps_2 [some (.dat (rd r)), some (.dat (.int (t : Int))), some (.olst (nl l)), none] = some (il (gaps r t), [some (.dat (rd r)), some (.dat (.int (t : Int))), some (.olst (nl l)), none]) := by
    unfold c__law_gaps_2 gaps
    rw [← hl]
    refine (comp_ev (ds := rngD ((1 : Nat) : Int) (dif l).length) (en1 := [some (.dat (rd r)), some (.dat (.int (t : Int))), some (.olst (nl l)), none]) (en2 := [some (.dat (rd r)), some (.dat (.int (t : Int))), some (.olst (nl l)), none]) (r := il (dif l)) ?_ ?_ ?_).trans rfl
    · generalize nl l = xs at *
      exact rng2_ev (os := [.val (.dat (.int 1)), .val (.dat (.int (xs.length : Int)))]) (lo := 1) (m := (xs.length : Int)) (by simp [evB, evS, evE, evL, evO, evOs, evEs, evT, evTs, evI, evC, evP, evDd, evPs, evWs, evG, evGs, fSeq2, aft, fNext, fRet, fIf, fAsg, fAsgL, fAsgT, fAsgD, fPar, fWv, fWl, fW0, setWs, wiS, fLit, fVar, Pf.slotAt, varS, fBin, fNeg, negD, fCmp, fChain, fAnd, fOr, fNot, fBool, boolS, fTest, fIte, fAt, fAtD, fCut, fPart, fNoPart, fOs, fOs0, fFn, fVs, fVs0, fTup, fFresh, fDisp, fTupOf, fListOf, fIsi, fCall, fCallW, fVal, fSlotC, isSet, Pf.rs, Pf.rsS, Pf.rsV, rsAll, rsD, keyD, datS, datsS, setS_s, setS_dv, setS_ol, setS_dat, setS_none, setS_olst, setS_rlst, setS_fdic, setS_odic, gN, gT, gs0, gsC, lenIs, binD, addD, subD, mulD, fdivD, modD, cmpD, ordD, isD, isN, isiD, at_l, at_t, fn_lenL, fn_lenT, fn_max2, fn_abs, fn_int, fn_intb, intV, seq_l, seq_t, lstV, fApp, fAugD, fAugI, olS, odS, odH, inS, getElem_s]) (by simp [evB, evS, evE, evL, evO, evOs, evEs, evT, evTs, evI, evC, evP, evDd, evPs, evWs, evG, evGs, fSeq2, aft, fNext, fRet, fIf, fAsg, fAsgL, fAsgT, fAsgD, fPar, fWv, fWl, fW0, setWs, wiS, fLit, fVar, Pf.slotAt, varS, fBin, fNeg, negD, fCmp, fChain, fAnd, fOr, fNot, fBool, boolS, fTest, fIte, fAt, fAtD, fCut, fPart, fNoPart, fOs, fOs0, fFn, fVs, fVs0, fTup, fFresh, fDisp, fTupOf, fListOf, fIsi, fCall, fCallW, fVal, fSlotC, isSet, Pf.rs, Pf.rsS, Pf.rsV, rsAll, rsD, keyD, datS, datsS, setS_s, setS_dv, setS_ol, setS_dat, setS_none, setS_olst, setS_rlst, setS_fdic, setS_odic, gN, gT, gs0, gsC, lenIs, binD, addD, subD, mulD, fdivD, modD, cmpD, ordD, isD, isN, isiD, at_l, at_t, fn_lenL, fn_lenT, fn_max2, fn_abs, fn_int, fn_intb, intV, seq_l, seq_t, lstV, fApp, fAugD, fAugI, olS, odS, odH, inS, getElem_s]) rfl (by rw [dif_len]; omega) (by decide) (by rw [dif_len]; omega) (by omega)
    · rw [rngD_len, dif_len]; unfold lim; omega
    · exact hcomp2
  rw [f__law_gaps]
  generalize nl l = xs at *
  generalize il (gaps r t) = ys at *
  refine fb_ret (en' := [some (.dat (rd r)), some (.dat (.int (t : Int))), some (.olst xs), none]) rfl (B_next (en1 := [some (.dat (rd r)), some (.dat (.int (t : Int))), some (.olst xs), none]) ?_ (B_ret ?_)) rfl
  · simp [evB, evS, evE, evL, evO, evOs, evEs, evT, evTs, evI, evC, evP, evDd, evPs, evWs, evG, evGs, fSeq2, aft, fNext, fRet, fIf, fAsg, fAsgL, fAsgT, fAsgD, fPar, fWv, fWl, fW0, setWs, wiS, fLit, fVar, Pf.slotAt, varS, fBin, fNeg, negD, fCmp, fChain, fAnd, fOr, fNot, fBool, boolS, fTest, fIte, fAt, fAtD, fCut, fPart, fNoPart, fOs, fOs0, fFn, fVs, fVs0, fTup, fFresh, fDisp, fTupOf, fListOf, fIsi, fCall, fCallW, fVal, fSlotC, isSet, Pf.rs, Pf.rsS, Pf.rsV, rsAll, rsD, keyD, datS, datsS, setS_s, setS_dv, setS_ol, setS_dat, setS_none, setS_olst, setS_rlst, setS_fdic, setS_odic, gN, gT, gs0, gsC, lenIs, binD, addD, subD, mulD, fdivD, modD, cmpD, ordD, isD, isN, isiD, at_l, at_t, fn_lenL, fn_lenT, fn_max2, fn_abs, fn_int, fn_intb, intV, seq_l, seq_t, lstV, fApp, fAugD, fAugI, olS, odS, odH, inS, getElem_s, List.replicate, hc]
  · simp [evB, evS, evE, evL, evO, evOs, evEs, evT, evTs, evI, evC, evP, evDd, evPs, evWs, evG, evGs, fSeq2, aft, fNext, fRet, fIf, fAsg, fAsgL, fAsgT, fAsgD, fPar, fWv, fWl, fW0, setWs, wiS, fLit, fVar, Pf.slotAt, varS, fBin, fNeg, negD, fCmp, fChain, fAnd, fOr, fNot, fBool, boolS, fTest, fIte, fAt, fAtD, fCut, fPart, fNoPart, fOs, fOs0, fFn, fVs, fVs0, fTup, fFresh, fDisp, fTupOf, fListOf, fIsi, fCall, fCallW, fVal, fSlotC, isSet, Pf.rs, Pf.rsS, Pf.rsV, rsAll, rsD, keyD, datS, datsS, setS_s, setS_dv, setS_ol, setS_dat, setS_none, setS_olst, setS_rlst, setS_fdic, setS_odic, gN, gT, gs0, gsC, lenIs, binD, addD, subD, mulD, fdivD, modD, cmpD, ordD, isD, isN, isiD, at_l, at_t, fn_lenL, fn_lenT, fn_max2, fn_abs, fn_int, fn_intb, intV, seq_l, seq_t, lstV, fApp, fAugD, fAugI, olS, odS, odH, inS, getElem_s, hc2]
theorem lmany_ok (n : Nat) {r : Row} (h : r.length ≤ 10) (t : Nat) : ((Y (n + 1)).f 19).2 [.dat (rd r), .dat (.int (t : Int))] = some (.int ((cnt r t : Nat) : Int), [.dat (rd r), .dat (.int (t : Int))]) := by
  have hcomp := comp_map (vs := [2]) (bd := evG (.name 2)) (cond := evC (Y n) c__law_many_1c) (elt := evE (Y n) c__law_many_1e) (f := fun i : Nat => PyData.int (i : Int)) (g := fun i : Nat => PyData.int (i : Int)) (p := fun k => decide (r[k]? = some (some t))) (en := [some (.dat (rd r)), some (.dat (.int (t : Int))), none]) (List.range r.length) fun k hk => by
    have hk := List.mem_range.mp hk
    have a1 := atD_rd hk
    have e1 := eqD_od r[k] t
    rw [List.getElem?_eq_getElem hk]
    have e2 : decide (some r[k] = some (some t)) = decide (r[k] = some t) := decide_eq_decide.mpr (by rw [Option.some.injEq])
    rw [e2]
    refine ⟨[some (.dat (rd r)), some (.dat (.int (t : Int))), some (.dat (.int (k : Int)))], [some (.dat (rd r)), some (.dat (.int (t : Int))), some (.dat (.int (k : Int)))], rfl, ?_, ?_⟩
    · cases hx : r[k] with
      | none =>
        rw [hx] at a1
        have e3 : od none = .none := rfl
        rw [e3] at a1
        simp [c__law_many_1c, evB, evS, evE, evL, evO, evOs, evEs, evT, evTs, evI, evC, evP, evDd, evPs, evWs, evG, evGs, fSeq2, aft, fNext, fRet, fIf, fAsg, fAsgL, fAsgT, fAsgD, fPar, fWv, fWl, fW0, setWs, wiS, fLit, fVar, Pf.slotAt, varS, fBin, fNeg, negD, fCmp, fChain, fAnd, fOr, fNot, fBool, boolS, fTest, fIte, fAt, fAtD, fCut, fPart, fNoPart, fOs, fOs0, fFn, fVs, fVs0, fTup, fFresh, fDisp, fTupOf, fListOf, fIsi, fCall, fCallW, fVal, fSlotC, isSet, Pf.rs, Pf.rsS, Pf.rsV, rsAll, rsD, keyD, datS, datsS, setS_s, setS_dv, setS_ol, setS_dat, setS_none, setS_olst, setS_rlst, setS_fdic, setS_odic, gN, gT, gs0, gsC, lenIs, binD, add_ii, subD, mulD, fdivD, modD, cmpD, ordD, isD, isNn, isNi, isNb, isNt, isNl, isiD, at_l, at_t, fn_lenL, fn_lenT, fn_max2, fn_abs, fn_int, fn_intb, intV, seq_l, seq_t, lstV, fApp, fAugD, fAugI, olS, odS, odH, inS, getElem_s, a1]
      | some a =>
        rw [hx] at a1 e1
        have hn : isN (od (some a)) = false := rfl
        generalize decide (some a = some t) = b at *
        generalize od (some a) = x at *
        simp [c__law_many_1c, evB, evS, evE, evL, evO, evOs, evEs, evT, evTs, evI, evC, evP, evDd, evPs, evWs, evG, evGs, fSeq2, aft, fNext, fRet, fIf, fAsg, fAsgL, fAsgT, fAsgD, fPar, fWv, fWl, fW0, setWs, wiS, fLit, fVar, Pf.slotAt, varS, fBin, fNeg, negD, fCmp, fChain, fAnd, fOr, fNot, fBool, boolS, fTest, fIte, fAt, fAtD, fCut, fPart, fNoPart, fOs, fOs0, fFn, fVs, fVs0, fTup, fFresh, fDisp, fTupOf, fListOf, fIsi, fCall, fCallW, fVal, fSlotC, isSet, Pf.rs, Pf.rsS, Pf.rsV, rsAll, rsD, keyD, datS, datsS, setS_s, setS_dv, setS_ol, setS_dat, setS_none, setS_olst, setS_rlst, setS_fdic, setS_odic, gN, gT, gs0, gsC, lenIs, binD, add_ii, subD, mulD, fdivD, modD, cmpD, ordD, isD, isNn, isNi, isNb, isNt, isNl, isiD, at_l, at_t, fn_lenL, fn_lenT, fn_max2, fn_abs, fn_int, fn_intb, intV, seq_l, seq_t, lstV, fApp, fAugD, fAugI, olS, odS, odH, inS, getElem_s, a1, e1, hn]
    · split
      · exact ⟨[some (.dat (rd r)), some (.dat (.int (t : Int))), some (.dat (.int (k : Int)))], by simp [c__law_many_1e, evB, evS, evE, evL, evO, evOs, evEs, evT, evTs, evI, evC, evP, evDd, evPs, evWs, evG, evGs, fSeq2, aft, fNext, fRet, fIf, fAsg, fAsgL, fAsgT, fAsgD, fPar, fWv, fWl, fW0, setWs, wiS, fLit, fVar, Pf.slotAt, varS, fBin, fNeg, negD, fCmp, fChain, fAnd, fOr, fNot, fBool, boolS, fTest, fIte, fAt, fAtD, fCut, fPart, fNoPart, fOs, fOs0, fFn, fVs, fVs0, fTup, fFresh, fDisp, fTupOf, fListOf, fIsi, fCall, fCallW, fVal, fSlotC, isSet, Pf.rs, Pf.rsS, Pf.rsV, rsAll, rsD, keyD, datS, datsS, setS_s, setS_dv, setS_ol, setS_dat, setS_none, setS_olst, setS_rlst, setS_fdic, setS_odic, gN, gT, gs0, gsC, lenIs, binD, addD, subD, mulD, fdivD, modD, cmpD, ordD, isD, isN, isiD, at_l, at_t, fn_lenL, fn_lenT, fn_max2, fn_abs, fn_int, fn_intb, intV, seq_l, seq_t, lstV, fApp, fAugD, fAugI, olS, odS, odH, inS, getElem_s], rfl⟩
      · rfl
  rw [← pos_range t r] at hcomp
  have hc : evL (Y n) c__law_many_1 [some (.dat (rd r)), some (.dat (.int (t : Int))), none] = some (nl (pos r t), [some (.dat (rd r)), some (.dat (.int (t : Int))), none]) := by
    unfold c__law_many_1
    refine (comp_ev (ds := rngD 0 r.length) (en1 := [some (.dat (rd r)), some (.dat (.int (t : Int))), none]) (en2 := [some (.dat (rd r)), some (.dat (.int (t : Int))), none]) (r := nl (pos r t)) ?_ ?_ ?_).trans rfl
    · exact rng1_ev (os := [.val (.dat (.int (r.length : Int)))]) (m := (r.length : Int)) (by simp [evB, evS, evE, evL, evO, evOs, evEs, evT, evTs, evI, evC, evP, evDd, evPs, evWs, evG, evGs, fSeq2, aft, fNext, fRet, fIf, fAsg, fAsgL, fAsgT, fAsgD, fPar, fWv, fWl, fW0, setWs, wiS, fLit, fVar, Pf.slotAt, varS, fBin, fNeg, negD, fCmp, fChain, fAnd, fOr, fNot, fBool, boolS, fTest, fIte, fAt, fAtD, fCut, fPart, fNoPart, fOs, fOs0, fFn, fVs, fVs0, fTup, fFresh, fDisp, fTupOf, fListOf, fIsi, fCall, fCallW, fVal, fSlotC, isSet, Pf.rs, Pf.rsS, Pf.rsV, rsAll, rsD, keyD, datS, datsS, setS_s, setS_dv, setS_ol, setS_dat, setS_none, setS_olst, setS_rlst, setS_fdic, setS_odic, gN, gT, gs0, gsC, lenIs, binD, addD, subD, mulD, fdivD, modD, cmpD, ordD, isD, isN, isiD, at_l, at_t, fn_lenL, fn_lenT, fn_max2, fn_abs, fn_int, fn_intb, intV, seq_l, seq_t, lstV, fApp, fAugD, fAugI, olS, odS, odH, inS, getElem_s, fn_len_rd]) (by simp [evB, evS, evE, evL, evO, evOs, evEs, evT, evTs, evI, evC, evP, evDd, evPs, evWs, evG, evGs, fSeq2, aft, fNext, fRet, fIf, fAsg, fAsgL, fAsgT, fAsgD, fPar, fWv, fWl, fW0, setWs, wiS, fLit, fVar, Pf.slotAt, varS, fBin, fNeg, negD, fCmp, fChain, fAnd, fOr, fNot, fBool, boolS, fTest, fIte, fAt, fAtD, fCut, fPart, fNoPart, fOs, fOs0, fFn, fVs, fVs0, fTup, fFresh, fDisp, fTupOf, fListOf, fIsi, fCall, fCallW, fVal, fSlotC, isSet, Pf.rs, Pf.rsS, Pf.rsV, rsAll, rsD, keyD, datS, datsS, setS_s, setS_dv, setS_ol, setS_dat, setS_none, setS_olst, setS_rlst, setS_fdic, setS_odic, gN, gT, gs0, gsC, lenIs, binD, addD, subD, mulD, fdivD, modD, cmpD, ordD, isD, isN, isiD, at_l, at_t, fn_lenL, fn_lenT, fn_max2, fn_abs, fn_int, fn_intb, intV, seq_l, seq_t, lstV, fApp, fAugD, fAugI, olS, odS, odH, inS, getElem_s]) rfl (by omega)
    · rw [rngD_len]; unfold lim; omega
    · rw [rngD_map]; exact hcomp
  have hnl := nl_len (pos r t)
  rw [f__law_many]
  unfold cnt
  generalize nl (pos r t) = xs at *
  simp [fBody, b__law_many, evB, evS, evE, evL, evO, evOs, evEs, evT, evTs, evI, evC, evP, evDd, evPs, evWs, evG, evGs, fSeq2, aft, fNext, fRet, fIf, fAsg, fAsgL, fAsgT, fAsgD, fPar, fWv, fWl, fW0, setWs, wiS, fLit, fVar, Pf.slotAt, varS, fBin, fNeg, negD, fCmp, fChain, fAnd, fOr, fNot, fBool, boolS, fTest, fIte, fAt, fAtD, fCut, fPart, fNoPart, fOs, fOs0, fFn, fVs, fVs0, fTup, fFresh, fDisp, fTupOf, fListOf, fIsi, fCall, fCallW, fVal, fSlotC, isSet, Pf.rs, Pf.rsS, Pf.rsV, rsAll, rsD, keyD, datS, datsS, setS_s, setS_dv, setS_ol, setS_dat, setS_none, setS_olst, setS_rlst, setS_fdic, setS_odic, gN, gT, gs0, gsC, lenIs, binD, addD, subD, mulD, fdivD, modD, cmpD, ordD, isD, isN, isiD, at_l, at_t, fn_lenL, fn_lenT, fn_max2, fn_abs, fn_int, fn_intb, intV, seq_l, seq_t, lstV, fApp, fAugD, fAugI, olS, odS, odH, inS, getElem_s, hc, hnl, endV, outs, ownB]
theorem lnum_ok (n : Nat) {d : D} (h : (∃ i, d = .int i) ∨ ∃ b, d = .bool b) : ((Y (n + 1)).f 17).2 [.dat d] = some (.bool (match d with | .int _ => true | _ => false), [.dat d]) := by
  rw [f__law_is_number]
  rcases h with ⟨i, rfl⟩ | ⟨b, rfl⟩
  · simp [fBody, b__law_is_number, evB, evS, evE, evL, evO, evOs, evEs, evT, evTs, evI, evC, evP, evDd, evPs, evWs, evG, evGs, fSeq2, aft, fNext, fRet, fIf, fAsg, fAsgL, fAsgT, fAsgD, fPar, fWv, fWl, fW0, setWs, wiS, fLit, fVar, Pf.slotAt, varS, fBin, fNeg, negD, fCmp, fChain, fAnd, fOr, fNot, fBool, boolS, fTest, fIte, fAt, fAtD, fCut, fPart, fNoPart, fOs, fOs0, fFn, fVs, fVs0, fTup, fFresh, fDisp, fTupOf, fListOf, fIsi, fCall, fCallW, fVal, fSlotC, isSet, Pf.rs, Pf.rsS, Pf.rsV, rsAll, rsD, keyD, datS, datsS, setS_s, setS_dv, setS_ol, setS_dat, setS_none, setS_olst, setS_rlst, setS_fdic, setS_odic, gN, gT, gs0, gsC, lenIs, binD, addD, subD, mulD, fdivD, modD, cmpD, ordD, isD, isN, isiD, at_l, at_t, fn_lenL, fn_lenT, fn_max2, fn_abs, fn_int, fn_intb, intV, seq_l, seq_t, lstV, fApp, fAugD, fAugI, olS, odS, odH, inS, getElem_s, endV, outs, ownB]
  · simp [fBody, b__law_is_number, evB, evS, evE, evL, evO, evOs, evEs, evT, evTs, evI, evC, evP, evDd, evPs, evWs, evG, evGs, fSeq2, aft, fNext, fRet, fIf, fAsg, fAsgL, fAsgT, fAsgD, fPar, fWv, fWl, fW0, setWs, wiS, fLit, fVar, Pf.slotAt, varS, fBin, fNeg, negD, fCmp, fChain, fAnd, fOr, fNot, fBool, boolS, fTest, fIte, fAt, fAtD, fCut, fPart, fNoPart, fOs, fOs0, fFn, fVs, fVs0, fTup, fFresh, fDisp, fTupOf, fListOf, fIsi, fCall, fCallW, fVal, fSlotC, isSet, Pf.rs, Pf.rsS, Pf.rsV, rsAll, rsD, keyD, datS, datsS, setS_s, setS_dv, setS_ol, setS_dat, setS_none, setS_olst, setS_rlst, setS_fdic, setS_odic, gN, gT, gs0, gsC, lenIs, binD, addD, subD, mulD, fdivD, modD, cmpD, ordD, isD, isN, isiD, at_l, at_t, fn_lenL, fn_lenT, fn_max2, fn_abs, fn_int, fn_intb, intV, seq_l, seq_t, lstV, fApp, fAugD, fAugI, olS, odS, odH, inS, getElem_s, endV, outs, ownB]
theorem says_ok (n : Nat) (b : Bool) : ((Y (n + 1)).f 14).2 [.dat (.bool b), .dat (.bool b)] = some (.bool true, [.dat (.bool b), .dat (.bool b)]) := by
  rw [f__law_says]
  simp [fBody, b__law_says, evB, evS, evE, evL, evO, evOs, evEs, evT, evTs, evI, evC, evP, evDd, evPs, evWs, evG, evGs, fSeq2, aft, fNext, fRet, fIf, fAsg, fAsgL, fAsgT, fAsgD, fPar, fWv, fWl, fW0, setWs, wiS, fLit, fVar, Pf.slotAt, varS, fBin, fNeg, negD, fCmp, fChain, fAnd, fOr, fNot, fBool, boolS, fTest, fIte, fAt, fAtD, fCut, fPart, fNoPart, fOs, fOs0, fFn, fVs, fVs0, fTup, fFresh, fDisp, fTupOf, fListOf, fIsi, fCall, fCallW, fVal, fSlotC, isSet, Pf.rs, Pf.rsS, Pf.rsV, rsAll, rsD, keyD, datS, datsS, setS_s, setS_dv, setS_ol, setS_dat, setS_none, setS_olst, setS_rlst, setS_fdic, setS_odic, gN, gT, gs0, gsC, lenIs, binD, addD, subD, mulD, fdivD, modD, cmpD, ordD, isD, isN, isiD, at_l, at_t, fn_lenL, fn_lenT, fn_max2, fn_abs, fn_int, fn_intb, intV, seq_l, seq_t, lstV, fApp, fAugD, fAugI, olS, odS, odH, inS, getElem_s, eqD_bool, endV, outs, ownB]


theorem lgaps_lv {lvm : Nat} (hm0 : 1 ≤ lvm) {r : Row} (h : r.length ≤ 10) (t : Nat) : ((Y lvm).f 18).2 [.dat (rd r), .dat (.int (t : Int))] = some (.list (il (gaps r t)), [.dat (rd r), .dat (.int (t : Int))]) :=
  lvl (P := fun lvm => ((Y lvm).f 18).2 [.dat (rd r), .dat (.int (t : Int))] = some (.list (il (gaps r t)), [.dat (rd r), .dat (.int (t : Int))])) 1 (fun n => lgaps_ok n h t) lvm hm0
theorem lmany_lv {lvm : Nat} (hm0 : 1 ≤ lvm) {r : Row} (h : r.length ≤ 10) (t : Nat) : ((Y lvm).f 19).2 [.dat (rd r), .dat (.int (t : Int))] = some (.int ((cnt r t : Nat) : Int), [.dat (rd r), .dat (.int (t : Int))]) :=
  lvl (P := fun lvm => ((Y lvm).f 19).2 [.dat (rd r), .dat (.int (t : Int))] = some (.int ((cnt r t : Nat) : Int), [.dat (rd r), .dat (.int (t : Int))])) 1 (fun n => lmany_ok n h t) lvm hm0
theorem lnum_lv {lvm : Nat} (hm0 : 1 ≤ lvm) {d : D} (h : (∃ i, d = .int i) ∨ ∃ b, d = .bool b) : ((Y lvm).f 17).2 [.dat d] = some (.bool (match d with | .int _ => true | _ => false), [.dat d]) :=
  lvl (P := fun lvm => ((Y lvm).f 17).2 [.dat d] = some (.bool (match d with | .int _ => true | _ => false), [.dat d])) 1 (fun n => lnum_ok n h) lvm hm0
theorem says_lv {lvm : Nat} (hm0 : 1 ≤ lvm) (b : Bool) : ((Y lvm).f 14).2 [.dat (.bool b), .dat (.bool b)] = some (.bool true, [.dat (.bool b), .dat (.bool b)]) :=
  lvl (P := fun lvm => ((Y lvm).f 14).2 [.dat (.bool b), .dat (.bool b)] = some (.bool true, [.dat (.bool b), .dat (.bool b)])) 1 (fun n => says_ok n b) lvm hm0
end K31

set_option maxHeartbeats 4000000
namespace K31
open PySem L2 Pf
theorem bad_nil (l : List Int) (f : Int → Bool) : eqD (.list ((l.filter fun g => !(f g)).map PyData.int)) (.list []) = some (l.all f) := by
  cases hz : l.filter fun g => !(f g) with
  | nil =>
    have : l.all f = true := List.all_eq_true.mpr fun x hx => by
      have := List.filter_eq_nil_iff.mp hz x hx
      simpa using this
    rw [this]
    exact eqD_nil
  | cons x zs =>
    have hm : x ∈ l.filter fun g => !(f g) := by rw [hz]; exact List.mem_cons_self
    obtain ⟨m1, m2⟩ := List.mem_filter.mp hm
    have : l.all f = false := Bool.eq_false_iff.mpr fun q => by
      have := List.all_eq_true.mp q x m1
      rw [this] at m2
      cases m2
    rw [this, List.map_cons]
    refine eqD_ne_nil (n := 0) (fun d hd => ?_) (by decide)
    have hd : d ∈ (x :: zs).map PyData.int := hd
    obtain ⟨i, _, rfl⟩ := List.mem_map.mp hd
    exact shD_int 0 i
theorem lis_row_ok (n : Nat) {tp : Top} (ht : tp.length ≤ 3) {p : Nat} (hp : p ≤ 8) {d : D} (hd : Bt d) : ((Y (n + 3)).f 20).2 [.dat (td tp), .dat (.int (p : Int)), .dat d] = some (.bool (ibr tp p d), [.dat (td tp), .dat (.int (p : Int)), .dat d]) := by
  rw [f__law_is_row]
  rcases hd with rfl | ⟨xs, rfl⟩ | ⟨ds, rfl, hl, he⟩
  · refine fb_ret (en' := [some (.dat (td tp)), some (.dat (.int (p : Int))), some (.dat .none), none, none, none, none, none, none]) rfl (B_ret ?_) rfl
    simp [evB, evS, evE, evL, evO, evOs, evEs, evT, evTs, evI, evC, evP, evDd, evPs, evWs, evG, evGs, fSeq2, aft, fNext, fRet, fIf, fAsg, fAsgL, fAsgT, fAsgD, fPar, fWv, fWl, fW0, setWs, wiS, fLit, fVar, Pf.slotAt, varS, fBin, fNeg, negD, fCmp, fChain, fAnd, fOr, fNot, fBool, boolS, fTest, fIte, fAt, fAtD, fCut, fPart, fNoPart, fOs, fOs0, fFn, fVs, fVs0, fTup, fFresh, fDisp, fTupOf, fListOf, fIsi, fCall, fCallW, fVal, fSlotC, isSet, Pf.rs, Pf.rsS, Pf.rsV, rsAll, rsD, keyD, datS, datsS, setS_s, setS_dv, setS_ol, setS_dat, setS_none, setS_olst, setS_rlst, setS_fdic, setS_odic, gN, gT, gs0, gsC, lenIs, binD, addD, subD, mulD, fdivD, modD, cmpD, ordD, isD, isN, isiD, at_l, at_t, fn_lenL, fn_lenT, fn_max2, fn_abs, fn_int, fn_intb, intV, seq_l, seq_t, lstV, fApp, fAugD, fAugI, olS, odS, odH, inS, getElem_s, List.replicate, ibr]
  · refine fb_ret (en' := [some (.dat (td tp)), some (.dat (.int (p : Int))), some (.dat (.list xs)), none, none, none, none, none, none]) rfl (B_ret ?_) rfl
    simp [evB, evS, evE, evL, evO, evOs, evEs, evT, evTs, evI, evC, evP, evDd, evPs, evWs, evG, evGs, fSeq2, aft, fNext, fRet, fIf, fAsg, fAsgL, fAsgT, fAsgD, fPar, fWv, fWl, fW0, setWs, wiS, fLit, fVar, Pf.slotAt, varS, fBin, fNeg, negD, fCmp, fChain, fAnd, fOr, fNot, fBool, boolS, fTest, fIte, fAt, fAtD, fCut, fPart, fNoPart, fOs, fOs0, fFn, fVs, fVs0, fTup, fFresh, fDisp, fTupOf, fListOf, fIsi, fCall, fCallW, fVal, fSlotC, isSet, Pf.rs, Pf.rsS, Pf.rsV, rsAll, rsD, keyD, datS, datsS, setS_s, setS_dv, setS_ol, setS_dat, setS_none, setS_olst, setS_rlst, setS_fdic, setS_odic, gN, gT, gs0, gsC, lenIs, binD, addD, subD, mulD, fdivD, modD, cmpD, ordD, isD, isN, isiD, at_l, at_t, fn_lenL, fn_lenT, fn_max2, fn_abs, fn_int, fn_intb, intV, seq_l, seq_t, lstV, fApp, fAugD, fAugI, olS, odS, odH, inS, getElem_s, List.replicate, ibr]
  · have e0 := eqD_int (ds.length : Int) (p : Int)
    by_cases hlp : ds.length = p
    rotate_left
    · rw [decide_eq_false (by omega)] at e0
      refine fb_ret (en' := [some (.dat (td tp)), some (.dat (.int (p : Int))), some (.dat (.tuple ds)), none, none, none, none, none, none]) rfl (B_ret ?_) rfl
      simp [evB, evS, evE, evL, evO, evOs, evEs, evT, evTs, evI, evC, evP, evDd, evPs, evWs, evG, evGs, fSeq2, aft, fNext, fRet, fIf, fAsg, fAsgL, fAsgT, fAsgD, fPar, fWv, fWl, fW0, setWs, wiS, fLit, fVar, Pf.slotAt, varS, fBin, fNeg, negD, fCmp, fChain, fAnd, fOr, fNot, fBool, boolS, fTest, fIte, fAt, fAtD, fCut, fPart, fNoPart, fOs, fOs0, fFn, fVs, fVs0, fTup, fFresh, fDisp, fTupOf, fListOf, fIsi, fCall, fCallW, fVal, fSlotC, isSet, Pf.rs, Pf.rsS, Pf.rsV, rsAll, rsD, keyD, datS, datsS, setS_s, setS_dv, setS_ol, setS_dat, setS_none, setS_olst, setS_rlst, setS_fdic, setS_odic, gN, gT, gs0, gsC, lenIs, binD, addD, subD, mulD, fdivD, modD, cmpD, ordD, isD, isN, isiD, at_l, at_t, fn_lenL, fn_lenT, fn_max2, fn_abs, fn_int, fn_intb, intV, seq_l, seq_t, lstV, fApp, fAugD, fAugI, olS, odS, odH, inS, getElem_s, List.replicate, e0, ibr, hlp]
    rw [decide_eq_true (by omega)] at e0
    have hcomp := comp_map (vs := [7]) (bd := evG (.name 7)) (cond := evC (Y (n + 2)) c__law_is_row_1c) (elt := evE (Y (n + 2)) c__law_is_row_1e) (f := fun x : D => x) (g := fun x : D => x) (p := fun x => !(okE tp.length x)) (en := [some (.dat (td tp)), some (.dat (.int (p : Int))), some (.dat (.tuple ds)), none, none, none, none, none, none]) ds fun x hx => by
      refine ⟨[some (.dat (td tp)), some (.dat (.int (p : Int))), some (.dat (.tuple ds)), none, none, none, none, some (.dat x), none], [some (.dat (td tp)), some (.dat (.int (p : Int))), some (.dat (.tuple ds)), none, none, none, none, some (.dat x), none], rfl, ?_, ?_⟩
      · have hlt := fn_len_td tp
        rcases he x hx with rfl | hx'
        · simp [c__law_is_row_1c, evB, evS, evE, evL, evO, evOs, evEs, evT, evTs, evI, evC, evP, evDd, evPs, evWs, evG, evGs, fSeq2, aft, fNext, fRet, fIf, fAsg, fAsgL, fAsgT, fAsgD, fPar, fWv, fWl, fW0, setWs, wiS, fLit, fVar, Pf.slotAt, varS, fBin, fNeg, negD, fCmp, fChain, fAnd, fOr, fNot, fBool, boolS, fTest, fIte, fAt, fAtD, fCut, fPart, fNoPart, fOs, fOs0, fFn, fVs, fVs0, fTup, fFresh, fDisp, fTupOf, fListOf, fIsi, fCall, fCallW, fVal, fSlotC, isSet, Pf.rs, Pf.rsS, Pf.rsV, rsAll, rsD, keyD, datS, datsS, setS_s, setS_dv, setS_ol, setS_dat, setS_none, setS_olst, setS_rlst, setS_fdic, setS_odic, gN, gT, gs0, gsC, lenIs, binD, add_ii, subD, mulD, fdivD, modD, cmpD, ordD, isD, isNn, isNi, isNb, isNt, isNl, isiD, at_l, at_t, fn_lenL, fn_lenT, fn_max2, fn_abs, fn_int, fn_intb, intV, seq_l, seq_t, lstV, fApp, fAugD, fAugI, olS, odS, odH, inS, getElem_s, okE]
        · have c1 := lnum_lv (lvm := n + 2) (by omega) hx'
          rcases hx' with ⟨i, rfl⟩ | ⟨b, rfl⟩
          · dsimp only at c1
            by_cases y1 : 0 ≤ i
            · by_cases y2 : i < (tp.length : Int)
              · simp [c__law_is_row_1c, evB, evS, evE, evL, evO, evOs, evEs, evT, evTs, evI, evC, evP, evDd, evPs, evWs, evG, evGs, fSeq2, aft, fNext, fRet, fIf, fAsg, fAsgL, fAsgT, fAsgD, fPar, fWv, fWl, fW0, setWs, wiS, fLit, fVar, Pf.slotAt, varS, fBin, fNeg, negD, fCmp, fChain, fAnd, fOr, fNot, fBool, boolS, fTest, fIte, fAt, fAtD, fCut, fPart, fNoPart, fOs, fOs0, fFn, fVs, fVs0, fTup, fFresh, fDisp, fTupOf, fListOf, fIsi, fCall, fCallW, fVal, fSlotC, isSet, Pf.rs, Pf.rsS, Pf.rsV, rsAll, rsD, keyD, datS, datsS, setS_s, setS_dv, setS_ol, setS_dat, setS_none, setS_olst, setS_rlst, setS_fdic, setS_odic, gN, gT, gs0, gsC, lenIs, binD, add_ii, subD, mulD, fdivD, modD, cmpD, ordD, isD, isNn, isNi, isNb, isNt, isNl, isiD, at_l, at_t, fn_lenL, fn_lenT, fn_max2, fn_abs, fn_int, fn_intb, intV, seq_l, seq_t, lstV, fApp, fAugD, fAugI, olS, odS, odH, inS, getElem_s, np__law_is_number, c1, hlt, okE, y1, y2]
              · simp [c__law_is_row_1c, evB, evS, evE, evL, evO, evOs, evEs, evT, evTs, evI, evC, evP, evDd, evPs, evWs, evG, evGs, fSeq2, aft, fNext, fRet, fIf, fAsg, fAsgL, fAsgT, fAsgD, fPar, fWv, fWl, fW0, setWs, wiS, fLit, fVar, Pf.slotAt, varS, fBin, fNeg, negD, fCmp, fChain, fAnd, fOr, fNot, fBool, boolS, fTest, fIte, fAt, fAtD, fCut, fPart, fNoPart, fOs, fOs0, fFn, fVs, fVs0, fTup, fFresh, fDisp, fTupOf, fListOf, fIsi, fCall, fCallW, fVal, fSlotC, isSet, Pf.rs, Pf.rsS, Pf.rsV, rsAll, rsD, keyD, datS, datsS, setS_s, setS_dv, setS_ol, setS_dat, setS_none, setS_olst, setS_rlst, setS_fdic, setS_odic, gN, gT, gs0, gsC, lenIs, binD, add_ii, subD, mulD, fdivD, modD, cmpD, ordD, isD, isNn, isNi, isNb, isNt, isNl, isiD, at_l, at_t, fn_lenL, fn_lenT, fn_max2, fn_abs, fn_int, fn_intb, intV, seq_l, seq_t, lstV, fApp, fAugD, fAugI, olS, odS, odH, inS, getElem_s, np__law_is_number, c1, hlt, okE, y1, y2]
            · simp [c__law_is_row_1c, evB, evS, evE, evL, evO, evOs, evEs, evT, evTs, evI, evC, evP, evDd, evPs, evWs, evG, evGs, fSeq2, aft, fNext, fRet, fIf, fAsg, fAsgL, fAsgT, fAsgD, fPar, fWv, fWl, fW0, setWs, wiS, fLit, fVar, Pf.slotAt, varS, fBin, fNeg, negD, fCmp, fChain, fAnd, fOr, fNot, fBool, boolS, fTest, fIte, fAt, fAtD, fCut, fPart, fNoPart, fOs, fOs0, fFn, fVs, fVs0, fTup, fFresh, fDisp, fTupOf, fListOf, fIsi, fCall, fCallW, fVal, fSlotC, isSet, Pf.rs, Pf.rsS, Pf.rsV, rsAll, rsD, keyD, datS, datsS, setS_s, setS_dv, setS_ol, setS_dat, setS_none, setS_olst, setS_rlst, setS_fdic, setS_odic, gN, gT, gs0, gsC, lenIs, binD, add_ii, subD, mulD, fdivD, modD, cmpD, ordD, isD, isNn, isNi, isNb, isNt, isNl, isiD, at_l, at_t, fn_lenL, fn_lenT, fn_max2, fn_abs, fn_int, fn_intb, intV, seq_l, seq_t, lstV, fApp, fAugD, fAugI, olS, odS, odH, inS, getElem_s, np__law_is_number, c1, hlt, okE, y1]
          · dsimp only at c1
            simp [c__law_is_row_1c, evB, evS, evE, evL, evO, evOs, evEs, evT, evTs, evI, evC, evP, evDd, evPs, evWs, evG, evGs, fSeq2, aft, fNext, fRet, fIf, fAsg, fAsgL, fAsgT, fAsgD, fPar, fWv, fWl, fW0, setWs, wiS, fLit, fVar, Pf.slotAt, varS, fBin, fNeg, negD, fCmp, fChain, fAnd, fOr, fNot, fBool, boolS, fTest, fIte, fAt, fAtD, fCut, fPart, fNoPart, fOs, fOs0, fFn, fVs, fVs0, fTup, fFresh, fDisp, fTupOf, fListOf, fIsi, fCall, fCallW, fVal, fSlotC, isSet, Pf.rs, Pf.rsS, Pf.rsV, rsAll, rsD, keyD, datS, datsS, setS_s, setS_dv, setS_ol, setS_dat, setS_none, setS_olst, setS_rlst, setS_fdic, setS_odic, gN, gT, gs0, gsC, lenIs, binD, add_ii, subD, mulD, fdivD, modD, cmpD, ordD, isD, isNn, isNi, isNb, isNt, isNl, isiD, at_l, at_t, fn_lenL, fn_lenT, fn_max2, fn_abs, fn_int, fn_intb, intV, seq_l, seq_t, lstV, fApp, fAugD, fAugI, olS, odS, odH, inS, getElem_s, np__law_is_number, c1, okE]
      · split
        · exact ⟨[some (.dat (td tp)), some (.dat (.int (p : Int))), some (.dat (.tuple ds)), none, none, none, none, some (.dat x), none], by simp [c__law_is_row_1e, evB, evS, evE, evL, evO, evOs, evEs, evT, evTs, evI, evC, evP, evDd, evPs, evWs, evG, evGs, fSeq2, aft, fNext, fRet, fIf, fAsg, fAsgL, fAsgT, fAsgD, fPar, fWv, fWl, fW0, setWs, wiS, fLit, fVar, Pf.slotAt, varS, fBin, fNeg, negD, fCmp, fChain, fAnd, fOr, fNot, fBool, boolS, fTest, fIte, fAt, fAtD, fCut, fPart, fNoPart, fOs, fOs0, fFn, fVs, fVs0, fTup, fFresh, fDisp, fTupOf, fListOf, fIsi, fCall, fCallW, fVal, fSlotC, isSet, Pf.rs, Pf.rsS, Pf.rsV, rsAll, rsD, keyD, datS, datsS, setS_s, setS_dv, setS_ol, setS_dat, setS_none, setS_olst, setS_rlst, setS_fdic, setS_odic, gN, gT, gs0, gsC, lenIs, binD, addD, subD, mulD, fdivD, modD, cmpD, ordD, isD, isN, isiD, at_l, at_t, fn_lenL, fn_lenT, fn_max2, fn_abs, fn_int, fn_intb, intV, seq_l, seq_t, lstV, fApp, fAugD, fAugI, olS, odS, odH, inS, getElem_s], rfl⟩
        · rfl
    rw [show ds.map (fun x : D => x) = ds from List.map_id _, show ∀ zs : List D, zs.map (fun x : D => x) = zs from fun zs => List.map_id _] at hcomp
    have hc : evL (Y (n + 2)) c__law_is_row_1 [some (.dat (td tp)), some (.dat (.int (p : Int))), some (.dat (.tuple ds)), none, none, none, none, none, none] = some (ds.filter fun x => !(okE tp.length x), [some (.dat (td tp)), some (.dat (.int (p : Int))), some (.dat (.tuple ds)), none, none, none, none, none, none]) := by
      unfold c__law_is_row_1
      refine (comp_ev (ds := ds) (en1 := [some (.dat (td tp)), some (.dat (.int (p : Int))), some (.dat (.tuple ds)), none, none, none, none, none, none]) (en2 := [some (.dat (td tp)), some (.dat (.int (p : Int))), some (.dat (.tuple ds)), none, none, none, none, none, none]) (r := ds.filter fun x => !(okE tp.length x)) ?_ ?_ ?_).trans rfl
      · unfold c__law_is_row_1i
        rw [evI]; unfold fSeq
        simp [evB, evS, evE, evL, evO, evOs, evEs, evT, evTs, evI, evC, evP, evDd, evPs, evWs, evG, evGs, fSeq2, aft, fNext, fRet, fIf, fAsg, fAsgL, fAsgT, fAsgD, fPar, fWv, fWl, fW0, setWs, wiS, fLit, fVar, Pf.slotAt, varS, fBin, fNeg, negD, fCmp, fChain, fAnd, fOr, fNot, fBool, boolS, fTest, fIte, fAt, fAtD, fCut, fPart, fNoPart, fOs, fOs0, fFn, fVs, fVs0, fTup, fFresh, fDisp, fTupOf, fListOf, fIsi, fCall, fCallW, fVal, fSlotC, isSet, Pf.rs, Pf.rsS, Pf.rsV, rsAll, rsD, keyD, datS, datsS, setS_s, setS_dv, setS_ol, setS_dat, setS_none, setS_olst, setS_rlst, setS_fdic, setS_odic, gN, gT, gs0, gsC, lenIs, binD, addD, subD, mulD, fdivD, modD, cmpD, ordD, isD, isN, isiD, at_l, at_t, fn_lenL, fn_lenT, fn_max2, fn_abs, fn_int, fn_intb, intV, seq_l, seq_t, lstV, fApp, fAugD, fAugI, olS, odS, odH, inS, getElem_s]
      · unfold lim; omega
      · exact hcomp
    have hall : eqD (.list (ds.filter fun x => !(okE tp.length x))) (.list []) = some (ds.all (okE tp.length)) := by
      cases hz : ds.filter fun x => !(okE tp.length x) with
      | nil =>
        have : ds.all (okE tp.length) = true := List.all_eq_true.mpr fun x hx => by
          have := List.filter_eq_nil_iff.mp hz x hx
          simpa using this
        rw [this]
        exact eqD_nil
      | cons x zs =>
        have hm : x ∈ ds.filter fun x => !(okE tp.length x) := by rw [hz]; exact List.mem_cons_self
        obtain ⟨m1, m2⟩ := List.mem_filter.mp hm
        have : ds.all (okE tp.length) = false := Bool.eq_false_iff.mpr fun q => by
          have := List.all_eq_true.mp q x m1
          rw [this] at m2
          cases m2
        rw [this]
        refine eqD_ne_nil (n := 0) (fun d hd => ?_) (by decide)
        rw [← hz] at hd
        rcases he d (List.mem_filter.mp hd).1 with rfl | ⟨i, rfl⟩ | ⟨b, rfl⟩
        · exact shD_none 0
        · exact shD_int 0 i
        · exact ⟨by unfold PyData.canLay0; rfl, by unfold PyData.depth; exact Nat.zero_le _⟩
    have l0 : (0 : Nat) ≤ lim := by decide
    generalize (ds.filter fun x => !(okE tp.length x)) = bs at *
    cases hok : ds.all (okE tp.length) with
    | false =>
      rw [hok] at hall
      refine fb_ret (en' := [some (.dat (td tp)), some (.dat (.int (p : Int))), some (.dat (.tuple ds)), none, none, none, none, none, none]) rfl (B_next (en1 := [some (.dat (td tp)), some (.dat (.int (p : Int))), some (.dat (.tuple ds)), none, none, none, none, none, none]) ?_ (B_ret ?_)) rfl
      · simp [evB, evS, evE, evL, evO, evOs, evEs, evT, evTs, evI, evC, evP, evDd, evPs, evWs, evG, evGs, fSeq2, aft, fNext, fRet, fIf, fAsg, fAsgL, fAsgT, fAsgD, fPar, fWv, fWl, fW0, setWs, wiS, fLit, fVar, Pf.slotAt, varS, fBin, fNeg, negD, fCmp, fChain, fAnd, fOr, fNot, fBool, boolS, fTest, fIte, fAt, fAtD, fCut, fPart, fNoPart, fOs, fOs0, fFn, fVs, fVs0, fTup, fFresh, fDisp, fTupOf, fListOf, fIsi, fCall, fCallW, fVal, fSlotC, isSet, Pf.rs, Pf.rsS, Pf.rsV, rsAll, rsD, keyD, datS, datsS, setS_s, setS_dv, setS_ol, setS_dat, setS_none, setS_olst, setS_rlst, setS_fdic, setS_odic, gN, gT, gs0, gsC, lenIs, binD, addD, subD, mulD, fdivD, modD, cmpD, ordD, isD, isN, isiD, at_l, at_t, fn_lenL, fn_lenT, fn_max2, fn_abs, fn_int, fn_intb, intV, seq_l, seq_t, lstV, fApp, fAugD, fAugI, olS, odS, odH, inS, getElem_s, List.replicate, e0]
      · simp [evB, evS, evE, evL, evO, evOs, evEs, evT, evTs, evI, evC, evP, evDd, evPs, evWs, evG, evGs, fSeq2, aft, fNext, fRet, fIf, fAsg, fAsgL, fAsgT, fAsgD, fPar, fWv, fWl, fW0, setWs, wiS, fLit, fVar, Pf.slotAt, varS, fBin, fNeg, negD, fCmp, fChain, fAnd, fOr, fNot, fBool, boolS, fTest, fIte, fAt, fAtD, fCut, fPart, fNoPart, fOs, fOs0, fFn, fVs, fVs0, fTup, fFresh, fDisp, fTupOf, fListOf, fIsi, fCall, fCallW, fVal, fSlotC, isSet, Pf.rs, Pf.rsS, Pf.rsV, rsAll, rsD, keyD, datS, datsS, setS_s, setS_dv, setS_ol, setS_dat, setS_none, setS_olst, setS_rlst, setS_fdic, setS_odic, gN, gT, gs0, gsC, lenIs, binD, add_ii, subD, mulD, fdivD, modD, cmpD, ordD, isD, isNn, isNi, isNb, isNt, isNl, isiD, at_l, at_t, fn_lenL, fn_lenT, fn_max2, fn_abs, fn_int, fn_intb, intV, seq_l, seq_t, lstV, fApp, fAugD, fAugI, olS, odS, odH, inS, getElem_s, hc, hall, l0, ibr, hok]
    | true =>
      rw [hok] at hall
      obtain ⟨r, hr⟩ : ∃ r, r = ds.map dn := ⟨_, rfl⟩
      have hds : ds = r.map od := by rw [hr]; exact (dn_od hok he).symm
      have hrl : r.length = ds.length := by rw [hr, List.length_map]
      have hib : ibr tp p (.tuple ds) = valid tp r := by
        show (decide (ds.length = p) && (ds.all (okE tp.length) && valid tp (ds.map dn))) = _
        rw [decide_eq_true hlp, hok, ← hr]
        rfl
      rw [hib]
      have hR : PyData.tuple ds = rd r := by rw [hds]; rfl
      let E0 : Option D → Option D → Option D → Option D → En := fun o3 o4 o5 o6 => [some (.dat (td tp)), some (.dat (.int (p : Int))), some (.dat (rd r)), o3.map SV.dat, o4.map SV.dat, o5.map SV.dat, o6.map SV.dat, none, none]
      have hE : ∀ o3 o4 o5 o6, E0 o3 o4 o5 o6 = [some (.dat (td tp)), some (.dat (.int (p : Int))), some (.dat (rd r)), o3.map SV.dat, o4.map SV.dat, o5.map SV.dat, o6.map SV.dat, none, none] := fun _ _ _ _ => rfl
      obtain ⟨fl, en', h1, h2⟩ := loop_ret (bd := evG (.name 3)) (body := evB (Y (n + 2)) b__law_is_row_1) (P := fun i en => ((List.range i).all (v1 tp r)) = true ∧ ∃ o3 o4 o5 o6, en = E0 o3 o4 o5 o6) (R := fun v en => v = .bool false ∧ valid tp r = false ∧ ∃ o3 o4 o5 o6, en = E0 o3 o4 o5 o6) (rngD 0 tp.length) 0 (E0 none none none none) ⟨rfl, none, none, none, none, rfl⟩ fun j d en hd hP => by
        obtain ⟨hP, o3, o4, o5, o6, rfl⟩ := hP
        obtain ⟨hj, rfl⟩ := rngD_at hd
        rw [Nat.zero_add] at hP ⊢
        rw [Int.zero_add]
        have a1 := atD_td hj
        have c1 := lgaps_lv (lvm := n + 2) (by omega) (r := r) (by omega) j
        have c2 := lmany_lv (lvm := n + 2) (by omega) (r := r) (by omega) j
        have e1 := eqD_int (cnt r j : Int) (tm tp j : Int)
        have e2 : decide ((cnt r j : Int) = (tm tp j : Int)) = decide (cnt r j = tm tp j) := decide_eq_decide.mpr (by omega)
        rw [e2] at e1
        have hgl : (gaps r j).length ≤ 10 := by
          unfold gaps
          rw [dif_len]
          have := pos_len r j
          omega
        have hcomp2 := comp_map (vs := [8]) (bd := evG (.name 8)) (cond := evC (Y (n + 2)) c__law_is_row_2c) (elt := evE (Y (n + 2)) c__law_is_row_2e) (f := PyData.int) (g := PyData.int) (p := fun g => !(gok tp j g)) (en := E0 (some (.int (j : Int))) (some (.int (tm tp j : Int))) (some (.int (le' tp j : Int))) (some (.int (mo tp j : Int)))) (gaps r j) fun g hg => by
          refine ⟨(E0 (some (.int (j : Int))) (some (.int (tm tp j : Int))) (some (.int (le' tp j : Int))) (some (.int (mo tp j : Int)))).set 8 (some (.dat (.int g))), (E0 (some (.int (j : Int))) (some (.int (tm tp j : Int))) (some (.int (le' tp j : Int))) (some (.int (mo tp j : Int)))).set 8 (some (.dat (.int g))), rfl, ?_, ?_⟩
          · unfold gok
            by_cases y1 : (le' tp j : Int) ≤ g
            · by_cases y2 : g ≤ (mo tp j : Int)
              · simp [c__law_is_row_2c, evB, evS, evE, evL, evO, evOs, evEs, evT, evTs, evI, evC, evP, evDd, evPs, evWs, evG, evGs, fSeq2, aft, fNext, fRet, fIf, fAsg, fAsgL, fAsgT, fAsgD, fPar, fWv, fWl, fW0, setWs, wiS, fLit, fVar, Pf.slotAt, varS, fBin, fNeg, negD, fCmp, fChain, fAnd, fOr, fNot, fBool, boolS, fTest, fIte, fAt, fAtD, fCut, fPart, fNoPart, fOs, fOs0, fFn, fVs, fVs0, fTup, fFresh, fDisp, fTupOf, fListOf, fIsi, fCall, fCallW, fVal, fSlotC, isSet, Pf.rs, Pf.rsS, Pf.rsV, rsAll, rsD, keyD, datS, datsS, setS_s, setS_dv, setS_ol, setS_dat, setS_none, setS_olst, setS_rlst, setS_fdic, setS_odic, gN, gT, gs0, gsC, lenIs, binD, addD, subD, mulD, fdivD, modD, cmpD, ordD, isD, isN, isiD, at_l, at_t, fn_lenL, fn_lenT, fn_max2, fn_abs, fn_int, fn_intb, intV, seq_l, seq_t, lstV, fApp, fAugD, fAugI, olS, odS, odH, inS, getElem_s, hE, y1, y2]
              · simp [c__law_is_row_2c, evB, evS, evE, evL, evO, evOs, evEs, evT, evTs, evI, evC, evP, evDd, evPs, evWs, evG, evGs, fSeq2, aft, fNext, fRet, fIf, fAsg, fAsgL, fAsgT, fAsgD, fPar, fWv, fWl, fW0, setWs, wiS, fLit, fVar, Pf.slotAt, varS, fBin, fNeg, negD, fCmp, fChain, fAnd, fOr, fNot, fBool, boolS, fTest, fIte, fAt, fAtD, fCut, fPart, fNoPart, fOs, fOs0, fFn, fVs, fVs0, fTup, fFresh, fDisp, fTupOf, fListOf, fIsi, fCall, fCallW, fVal, fSlotC, isSet, Pf.rs, Pf.rsS, Pf.rsV, rsAll, rsD, keyD, datS, datsS, setS_s, setS_dv, setS_ol, setS_dat, setS_none, setS_olst, setS_rlst, setS_fdic, setS_odic, gN, gT, gs0, gsC, lenIs, binD, addD, subD, mulD, fdivD, modD, cmpD, ordD, isD, isN, isiD, at_l, at_t, fn_lenL, fn_lenT, fn_max2, fn_abs, fn_int, fn_intb, intV, seq_l, seq_t, lstV, fApp, fAugD, fAugI, olS, odS, odH, inS, getElem_s, hE, y1, y2]
            · simp [c__law_is_row_2c, evB, evS, evE, evL, evO, evOs, evEs, evT, evTs, evI, evC, evP, evDd, evPs, evWs, evG, evGs, fSeq2, aft, fNext, fRet, fIf, fAsg, fAsgL, fAsgT, fAsgD, fPar, fWv, fWl, fW0, setWs, wiS, fLit, fVar, Pf.slotAt, varS, fBin, fNeg, negD, fCmp, fChain, fAnd, fOr, fNot, fBool, boolS, fTest, fIte, fAt, fAtD, fCut, fPart, fNoPart, fOs, fOs0, fFn, fVs, fVs0, fTup, fFresh, fDisp, fTupOf, fListOf, fIsi, fCall, fCallW, fVal, fSlotC, isSet, Pf.rs, Pf.rsS, Pf.rsV, rsAll, rsD, keyD, datS, datsS, setS_s, setS_dv, setS_ol, setS_dat, setS_none, setS_olst, setS_rlst, setS_fdic, setS_odic, gN, gT, gs0, gsC, lenIs, binD, addD, subD, mulD, fdivD, modD, cmpD, ordD, isD, isN, isiD, at_l, at_t, fn_lenL, fn_lenT, fn_max2, fn_abs, fn_int, fn_intb, intV, seq_l, seq_t, lstV, fApp, fAugD, fAugI, olS, odS, odH, inS, getElem_s, hE, y1]
          · split
            · exact ⟨(E0 (some (.int (j : Int))) (some (.int (tm tp j : Int))) (some (.int (le' tp j : Int))) (some (.int (mo tp j : Int)))).set 8 (some (.dat (.int g))), by simp [c__law_is_row_2e, evB, evS, evE, evL, evO, evOs, evEs, evT, evTs, evI, evC, evP, evDd, evPs, evWs, evG, evGs, fSeq2, aft, fNext, fRet, fIf, fAsg, fAsgL, fAsgT, fAsgD, fPar, fWv, fWl, fW0, setWs, wiS, fLit, fVar, Pf.slotAt, varS, fBin, fNeg, negD, fCmp, fChain, fAnd, fOr, fNot, fBool, boolS, fTest, fIte, fAt, fAtD, fCut, fPart, fNoPart, fOs, fOs0, fFn, fVs, fVs0, fTup, fFresh, fDisp, fTupOf, fListOf, fIsi, fCall, fCallW, fVal, fSlotC, isSet, Pf.rs, Pf.rsS, Pf.rsV, rsAll, rsD, keyD, datS, datsS, setS_s, setS_dv, setS_ol, setS_dat, setS_none, setS_olst, setS_rlst, setS_fdic, setS_odic, gN, gT, gs0, gsC, lenIs, binD, addD, subD, mulD, fdivD, modD, cmpD, ordD, isD, isN, isiD, at_l, at_t, fn_lenL, fn_lenT, fn_max2, fn_abs, fn_int, fn_intb, intV, seq_l, seq_t, lstV, fApp, fAugD, fAugI, olS, odS, odH, inS, getElem_s, hE], rfl⟩
            · rfl
        have hc2 : evL (Y (n + 2)) c__law_is_row_2 (E0 (some (.int (j : Int))) (some (.int (tm tp j : Int))) (some (.int (le' tp j : Int))) (some (.int (mo tp j : Int)))) = some (((gaps r j).filter fun g => !(gok tp j g)).map PyData.int, E0 (some (.int (j : Int))) (some (.int (tm tp j : Int))) (some (.int (le' tp j : Int))) (some (.int (mo tp j : Int)))) := by
          unfold c__law_is_row_2
          refine (comp_ev (ds := (gaps r j).map PyData.int) (en1 := E0 (some (.int (j : Int))) (some (.int (tm tp j : Int))) (some (.int (le' tp j : Int))) (some (.int (mo tp j : Int)))) (en2 := E0 (some (.int (j : Int))) (some (.int (tm tp j : Int))) (some (.int (le' tp j : Int))) (some (.int (mo tp j : Int)))) (r := ((gaps r j).filter fun g => !(gok tp j g)).map PyData.int) ?_ ?_ ?_).trans rfl
          · unfold c__law_is_row_2i il at *
            rw [evI]; unfold fSeq
            generalize (gaps r j).map PyData.int = gs at *
            simp [evB, evS, evE, evL, evO, evOs, evEs, evT, evTs, evI, evC, evP, evDd, evPs, evWs, evG, evGs, fSeq2, aft, fNext, fRet, fIf, fAsg, fAsgL, fAsgT, fAsgD, fPar, fWv, fWl, fW0, setWs, wiS, fLit, fVar, Pf.slotAt, varS, fBin, fNeg, negD, fCmp, fChain, fAnd, fOr, fNot, fBool, boolS, fTest, fIte, fAt, fAtD, fCut, fPart, fNoPart, fOs, fOs0, fFn, fVs, fVs0, fTup, fFresh, fDisp, fTupOf, fListOf, fIsi, fCall, fCallW, fVal, fSlotC, isSet, Pf.rs, Pf.rsS, Pf.rsV, rsAll, rsD, keyD, datS, datsS, setS_s, setS_dv, setS_ol, setS_dat, setS_none, setS_olst, setS_rlst, setS_fdic, setS_odic, gN, gT, gs0, gsC, lenIs, binD, addD, subD, mulD, fdivD, modD, cmpD, ordD, isD, isN, isiD, at_l, at_t, fn_lenL, fn_lenT, fn_max2, fn_abs, fn_int, fn_intb, intV, seq_l, seq_t, lstV, fApp, fAugD, fAugI, olS, odS, odH, inS, getElem_s, hE, np__law_gaps, c1]
          · rw [List.length_map]; unfold lim; omega
          · exact hcomp2
        have hall2 := bad_nil (gaps r j) (gok tp j)
        have key : evB (Y (n + 2)) b__law_is_row_1 (E0 (some (.int (j : Int))) o4 o5 o6) = some (if v1 tp r j = true then .next else .ret (.bool false), E0 (some (.int (j : Int))) (some (.int (tm tp j : Int))) (some (.int (le' tp j : Int))) (some (.int (mo tp j : Int)))) := by
          refine B_next (en1 := E0 (some (.int (j : Int))) (some (.int (tm tp j : Int))) (some (.int (le' tp j : Int))) (some (.int (mo tp j : Int)))) ?_ ?_
          · simp [evB, evS, evE, evL, evO, evOs, evEs, evT, evTs, evI, evC, evP, evDd, evPs, evWs, evG, evGs, fSeq2, aft, fNext, fRet, fIf, fAsg, fAsgL, fAsgT, fAsgD, fPar, fWv, fWl, fW0, setWs, wiS, fLit, fVar, Pf.slotAt, varS, fBin, fNeg, negD, fCmp, fChain, fAnd, fOr, fNot, fBool, boolS, fTest, fIte, fAt, fAtD, fCut, fPart, fNoPart, fOs, fOs0, fFn, fVs, fVs0, fTup, fFresh, fDisp, fTupOf, fListOf, fIsi, fCall, fCallW, fVal, fSlotC, isSet, Pf.rs, Pf.rsS, Pf.rsV, rsAll, rsD, keyD, datS, datsS, setS_s, setS_dv, setS_ol, setS_dat, setS_none, setS_olst, setS_rlst, setS_fdic, setS_odic, gN, gT, gs0, gsC, lenIs, binD, addD, subD, mulD, fdivD, modD, cmpD, ordD, isD, isN, isiD, at_l, at_t, fn_lenL, fn_lenT, fn_max2, fn_abs, fn_int, fn_intb, intV, seq_l, seq_t, lstV, fApp, fAugD, fAugI, olS, odS, odH, inS, getElem_s, hE, a1]
          · unfold v1
            generalize (((gaps r j).filter fun g => !(gok tp j g)).map PyData.int) = gs at *
            generalize (gaps r j).all (gok tp j) = ga at *
            unfold E0 at hc2 ⊢
            simp only [Option.map_some] at hc2
            by_cases y : cnt r j = tm tp j
            · rw [decide_eq_true y] at e1 ⊢
              cases ga with
              | true => simp [evB, evS, evE, evL, evO, evOs, evEs, evT, evTs, evI, evC, evP, evDd, evPs, evWs, evG, evGs, fSeq2, aft, fNext, fRet, fIf, fAsg, fAsgL, fAsgT, fAsgD, fPar, fWv, fWl, fW0, setWs, wiS, fLit, fVar, Pf.slotAt, varS, fBin, fNeg, negD, fCmp, fChain, fAnd, fOr, fNot, fBool, boolS, fTest, fIte, fAt, fAtD, fCut, fPart, fNoPart, fOs, fOs0, fFn, fVs, fVs0, fTup, fFresh, fDisp, fTupOf, fListOf, fIsi, fCall, fCallW, fVal, fSlotC, isSet, Pf.rs, Pf.rsS, Pf.rsV, rsAll, rsD, keyD, datS, datsS, setS_s, setS_dv, setS_ol, setS_dat, setS_none, setS_olst, setS_rlst, setS_fdic, setS_odic, gN, gT, gs0, gsC, lenIs, binD, add_ii, subD, mulD, fdivD, modD, cmpD, ordD, isD, isNn, isNi, isNb, isNt, isNl, isiD, at_l, at_t, fn_lenL, fn_lenT, fn_max2, fn_abs, fn_int, fn_intb, intV, seq_l, seq_t, lstV, fApp, fAugD, fAugI, olS, odS, odH, inS, getElem_s, np__law_many, c2, e1, hc2, hall2, l0]
              | false => simp [evB, evS, evE, evL, evO, evOs, evEs, evT, evTs, evI, evC, evP, evDd, evPs, evWs, evG, evGs, fSeq2, aft, fNext, fRet, fIf, fAsg, fAsgL, fAsgT, fAsgD, fPar, fWv, fWl, fW0, setWs, wiS, fLit, fVar, Pf.slotAt, varS, fBin, fNeg, negD, fCmp, fChain, fAnd, fOr, fNot, fBool, boolS, fTest, fIte, fAt, fAtD, fCut, fPart, fNoPart, fOs, fOs0, fFn, fVs, fVs0, fTup, fFresh, fDisp, fTupOf, fListOf, fIsi, fCall, fCallW, fVal, fSlotC, isSet, Pf.rs, Pf.rsS, Pf.rsV, rsAll, rsD, keyD, datS, datsS, setS_s, setS_dv, setS_ol, setS_dat, setS_none, setS_olst, setS_rlst, setS_fdic, setS_odic, gN, gT, gs0, gsC, lenIs, binD, add_ii, subD, mulD, fdivD, modD, cmpD, ordD, isD, isNn, isNi, isNb, isNt, isNl, isiD, at_l, at_t, fn_lenL, fn_lenT, fn_max2, fn_abs, fn_int, fn_intb, intV, seq_l, seq_t, lstV, fApp, fAugD, fAugI, olS, odS, odH, inS, getElem_s, np__law_many, c2, e1, hc2, hall2, l0]
            · rw [decide_eq_false y] at e1 ⊢
              simp [evB, evS, evE, evL, evO, evOs, evEs, evT, evTs, evI, evC, evP, evDd, evPs, evWs, evG, evGs, fSeq2, aft, fNext, fRet, fIf, fAsg, fAsgL, fAsgT, fAsgD, fPar, fWv, fWl, fW0, setWs, wiS, fLit, fVar, Pf.slotAt, varS, fBin, fNeg, negD, fCmp, fChain, fAnd, fOr, fNot, fBool, boolS, fTest, fIte, fAt, fAtD, fCut, fPart, fNoPart, fOs, fOs0, fFn, fVs, fVs0, fTup, fFresh, fDisp, fTupOf, fListOf, fIsi, fCall, fCallW, fVal, fSlotC, isSet, Pf.rs, Pf.rsS, Pf.rsV, rsAll, rsD, keyD, datS, datsS, setS_s, setS_dv, setS_ol, setS_dat, setS_none, setS_olst, setS_rlst, setS_fdic, setS_odic, gN, gT, gs0, gsC, lenIs, binD, add_ii, subD, mulD, fdivD, modD, cmpD, ordD, isD, isNn, isNi, isNb, isNt, isNl, isiD, at_l, at_t, fn_lenL, fn_lenT, fn_max2, fn_abs, fn_int, fn_intb, intV, seq_l, seq_t, lstV, fApp, fAugD, fAugI, olS, odS, odH, inS, getElem_s, np__law_many, c2, e1]
        refine ⟨_, _, _, gN_dv rfl, key, ?_⟩
        cases hv : v1 tp r j with
        | true =>
          refine .inl ⟨if_pos rfl, ?_, _, _, _, _, rfl⟩
          rw [List.range_succ, List.all_append, hP]
          simp [hv]
        | false =>
          refine .inr ⟨_, if_neg (by decide), rfl, ?_, _, _, _, _, rfl⟩
          refine Bool.eq_false_iff.mpr fun q => ?_
          have := List.all_eq_true.mp q j (List.mem_range.mpr hj)
          have hv' : (decide (cnt r j = tm tp j) && (gaps r j).all (gok tp j)) = false := hv
          rw [hv'] at this
          cases this
      rw [rngD_len, Nat.zero_add] at h2
      have hI : evI (Y (n + 2)) (.rng1 (.cons (.val (.fn .len (.cons (.slot 0) .nil))) .nil)) (E0 none none none none) = some (rngD 0 tp.length, E0 none none none none) := rng1_ev (os := [.val (.dat (.int (tp.length : Int)))]) (m := (tp.length : Int)) (by simp [evB, evS, evE, evL, evO, evOs, evEs, evT, evTs, evI, evC, evP, evDd, evPs, evWs, evG, evGs, fSeq2, aft, fNext, fRet, fIf, fAsg, fAsgL, fAsgT, fAsgD, fPar, fWv, fWl, fW0, setWs, wiS, fLit, fVar, Pf.slotAt, varS, fBin, fNeg, negD, fCmp, fChain, fAnd, fOr, fNot, fBool, boolS, fTest, fIte, fAt, fAtD, fCut, fPart, fNoPart, fOs, fOs0, fFn, fVs, fVs0, fTup, fFresh, fDisp, fTupOf, fListOf, fIsi, fCall, fCallW, fVal, fSlotC, isSet, Pf.rs, Pf.rsS, Pf.rsV, rsAll, rsD, keyD, datS, datsS, setS_s, setS_dv, setS_ol, setS_dat, setS_none, setS_olst, setS_rlst, setS_fdic, setS_odic, gN, gT, gs0, gsC, lenIs, binD, addD, subD, mulD, fdivD, modD, cmpD, ordD, isD, isN, isiD, at_l, at_t, fn_lenL, fn_lenT, fn_max2, fn_abs, fn_int, fn_intb, intV, seq_l, seq_t, lstV, fApp, fAugD, fAugI, olS, odS, odH, inS, getElem_s, hE, fn_len_td]) (by simp [evB, evS, evE, evL, evO, evOs, evEs, evT, evTs, evI, evC, evP, evDd, evPs, evWs, evG, evGs, fSeq2, aft, fNext, fRet, fIf, fAsg, fAsgL, fAsgT, fAsgD, fPar, fWv, fWl, fW0, setWs, wiS, fLit, fVar, Pf.slotAt, varS, fBin, fNeg, negD, fCmp, fChain, fAnd, fOr, fNot, fBool, boolS, fTest, fIte, fAt, fAtD, fCut, fPart, fNoPart, fOs, fOs0, fFn, fVs, fVs0, fTup, fFresh, fDisp, fTupOf, fListOf, fIsi, fCall, fCallW, fVal, fSlotC, isSet, Pf.rs, Pf.rsS, Pf.rsV, rsAll, rsD, keyD, datS, datsS, setS_s, setS_dv, setS_ol, setS_dat, setS_none, setS_olst, setS_rlst, setS_fdic, setS_odic, gN, gT, gs0, gsC, lenIs, binD, addD, subD, mulD, fdivD, modD, cmpD, ordD, isD, isN, isiD, at_l, at_t, fn_lenL, fn_lenT, fn_max2, fn_abs, fn_int, fn_intb, intV, seq_l, seq_t, lstV, fApp, fAugD, fAugI, olS, odS, odH, inS, getElem_s]) rfl (by omega)
      have s1 : evS (Y (n + 2)) (.ife (.or (.cons (.not (.val (.isi .tuple (.slot 2)))) (.one (.cmp .ne (.val (.fn .len (.cons (.slot 2) .nil))) (.slot 1))))) (.cons (.ret (.lit (.bool false))) .nil) .nil) [some (.dat (td tp)), some (.dat (.int (p : Int))), some (.dat (.tuple ds)), none, none, none, none, none, none] = some (.next, [some (.dat (td tp)), some (.dat (.int (p : Int))), some (.dat (.tuple ds)), none, none, none, none, none, none]) := by
        simp [evB, evS, evE, evL, evO, evOs, evEs, evT, evTs, evI, evC, evP, evDd, evPs, evWs, evG, evGs, fSeq2, aft, fNext, fRet, fIf, fAsg, fAsgL, fAsgT, fAsgD, fPar, fWv, fWl, fW0, setWs, wiS, fLit, fVar, Pf.slotAt, varS, fBin, fNeg, negD, fCmp, fChain, fAnd, fOr, fNot, fBool, boolS, fTest, fIte, fAt, fAtD, fCut, fPart, fNoPart, fOs, fOs0, fFn, fVs, fVs0, fTup, fFresh, fDisp, fTupOf, fListOf, fIsi, fCall, fCallW, fVal, fSlotC, isSet, Pf.rs, Pf.rsS, Pf.rsV, rsAll, rsD, keyD, datS, datsS, setS_s, setS_dv, setS_ol, setS_dat, setS_none, setS_olst, setS_rlst, setS_fdic, setS_odic, gN, gT, gs0, gsC, lenIs, binD, addD, subD, mulD, fdivD, modD, cmpD, ordD, isD, isN, isiD, at_l, at_t, fn_lenL, fn_lenT, fn_max2, fn_abs, fn_int, fn_intb, intV, seq_l, seq_t, lstV, fApp, fAugD, fAugI, olS, odS, odH, inS, getElem_s, e0]
      have s2 : evS (Y (n + 2)) (.ife (.cmp .ne (.val (.fresh c__law_is_row_1)) (.val (.fresh (.disp .nil)))) (.cons (.ret (.lit (.bool false))) .nil) .nil) [some (.dat (td tp)), some (.dat (.int (p : Int))), some (.dat (.tuple ds)), none, none, none, none, none, none] = some (.next, [some (.dat (td tp)), some (.dat (.int (p : Int))), some (.dat (.tuple ds)), none, none, none, none, none, none]) := by
        simp [evB, evS, evE, evL, evO, evOs, evEs, evT, evTs, evI, evC, evP, evDd, evPs, evWs, evG, evGs, fSeq2, aft, fNext, fRet, fIf, fAsg, fAsgL, fAsgT, fAsgD, fPar, fWv, fWl, fW0, setWs, wiS, fLit, fVar, Pf.slotAt, varS, fBin, fNeg, negD, fCmp, fChain, fAnd, fOr, fNot, fBool, boolS, fTest, fIte, fAt, fAtD, fCut, fPart, fNoPart, fOs, fOs0, fFn, fVs, fVs0, fTup, fFresh, fDisp, fTupOf, fListOf, fIsi, fCall, fCallW, fVal, fSlotC, isSet, Pf.rs, Pf.rsS, Pf.rsV, rsAll, rsD, keyD, datS, datsS, setS_s, setS_dv, setS_ol, setS_dat, setS_none, setS_olst, setS_rlst, setS_fdic, setS_odic, gN, gT, gs0, gsC, lenIs, binD, add_ii, subD, mulD, fdivD, modD, cmpD, ordD, isD, isNn, isNi, isNb, isNt, isNl, isiD, at_l, at_t, fn_lenL, fn_lenT, fn_max2, fn_abs, fn_int, fn_intb, intV, seq_l, seq_t, lstV, fApp, fAugD, fAugI, olS, odS, odH, inS, getElem_s, hc, hall, l0]
      have hst : E0 none none none none = [some (.dat (td tp)), some (.dat (.int (p : Int))), some (.dat (.tuple ds)), none, none, none, none, none, none] := by rw [hR]; rfl
      rw [hR] at s1 s2 ⊢
      rcases h2 with ⟨rfl, hP, o3, o4, o5, o6, rfl⟩ | ⟨v, rfl, hv, hl, o3, o4, o5, o6, rfl⟩
      · refine fb_ret (en' := E0 o3 o4 o5 o6) rfl (B_next s1 (B_next s2 (B_next (for_next hI h1) (B_ret ?_)))) rfl
        have : valid tp r = true := hP
        rw [this]
        simp [evB, evS, evE, evL, evO, evOs, evEs, evT, evTs, evI, evC, evP, evDd, evPs, evWs, evG, evGs, fSeq2, aft, fNext, fRet, fIf, fAsg, fAsgL, fAsgT, fAsgD, fPar, fWv, fWl, fW0, setWs, wiS, fLit, fVar, Pf.slotAt, varS, fBin, fNeg, negD, fCmp, fChain, fAnd, fOr, fNot, fBool, boolS, fTest, fIte, fAt, fAtD, fCut, fPart, fNoPart, fOs, fOs0, fFn, fVs, fVs0, fTup, fFresh, fDisp, fTupOf, fListOf, fIsi, fCall, fCallW, fVal, fSlotC, isSet, Pf.rs, Pf.rsS, Pf.rsV, rsAll, rsD, keyD, datS, datsS, setS_s, setS_dv, setS_ol, setS_dat, setS_none, setS_olst, setS_rlst, setS_fdic, setS_odic, gN, gT, gs0, gsC, lenIs, binD, addD, subD, mulD, fdivD, modD, cmpD, ordD, isD, isN, isiD, at_l, at_t, fn_lenL, fn_lenT, fn_max2, fn_abs, fn_int, fn_intb, intV, seq_l, seq_t, lstV, fApp, fAugD, fAugI, olS, odS, odH, inS, getElem_s, hE]
      · subst hv
        rw [hl]
        exact fb_ret (en' := E0 o3 o4 o5 o6) rfl (B_next s1 (B_next s2 (B_ret (for_any hI h1)))) rfl


theorem lis_row_lv {lvm : Nat} (hm0 : 3 ≤ lvm) {tp : Top} (ht : tp.length ≤ 3) {p : Nat} (hp : p ≤ 8) {d : D} (hd : Bt d) : ((Y lvm).f 20).2 [.dat (td tp), .dat (.int (p : Int)), .dat d] = some (.bool (ibr tp p d), [.dat (td tp), .dat (.int (p : Int)), .dat d]) :=
  lvl (P := fun lvm => ((Y lvm).f 20).2 [.dat (td tp), .dat (.int (p : Int)), .dat d] = some (.bool (ibr tp p d), [.dat (td tp), .dat (.int (p : Int)), .dat d])) 3 (fun n => lis_row_ok n ht hp hd) lvm hm0
end K31

set_option maxHeartbeats 4000000
namespace K31
open PySem L2 Pf
/-- a slot that may be written anew -/
def Fr (o : Option SV) : Prop := ∀ sv l, setS 0 sv (o :: l) = some (some sv :: l)
theorem Fr_none : Fr none := fun _ _ => rfl
theorem Fr_dat (d : D) : Fr (some (.dat d)) := fun _ _ => rfl
theorem Fr_olst (d : List D) : Fr (some (.olst d)) := fun _ _ => rfl
theorem Fr_kdic (d : List (Key × D)) : Fr (some (.kdic d)) := fun _ _ => rfl

def F2 (tp : Top) (p : Nat) (x2 o3 o4 x5 x6 x7 o8 o9 o10 : Option SV) : En := [some (.dat (td tp)), some (.dat (.int (p : Int))), x2, o3, o4, x5, x6, x7, o8, o9, o10, none, none]
theorem bad_nilN (l : List Nat) (f : Nat → Bool) : eqD (.list (nl (l.filter fun g => !(f g)))) (.list []) = some (l.all f) := by
  cases hz : l.filter fun g => !(f g) with
  | nil =>
    have : l.all f = true := List.all_eq_true.mpr fun x hx => by
      have := List.filter_eq_nil_iff.mp hz x hx
      simpa using this
    rw [this]
    exact eqD_nil
  | cons x zs =>
    have hm : x ∈ l.filter fun g => !(f g) := by rw [hz]; exact List.mem_cons_self
    obtain ⟨m1, m2⟩ := List.mem_filter.mp hm
    have : l.all f = false := Bool.eq_false_iff.mpr fun q => by
      have := List.all_eq_true.mp q x m1
      rw [this] at m2
      cases m2
    rw [this]
    unfold nl
    rw [List.map_cons]
    refine eqD_ne_nil (n := 0) (fun d hd => ?_) (by decide)
    have hd : d ∈ (x :: zs).map fun n : Nat => PyData.int (n : Int) := hd
    obtain ⟨i, _, rfl⟩ := List.mem_map.mp hd
    exact shD_int 0 _
theorem cut_last (gs : List Int) : cutD (.list (il gs)) (some ((gs.length : Int) - 1)) none = some (.list (il gs.getLast?.toList)) := by
  show some (PyData.list _) = _
  congr 2
  cases h : gs with
  | nil => rfl
  | cons a l =>
    rw [← h]
    have hne : gs ≠ [] := by rw [h]; exact List.cons_ne_nil _ _
    have hp : 0 < gs.length := List.length_pos_iff.mpr hne
    rw [show (gs.length : Int) - 1 = ((gs.length - 1 : Nat) : Int) by omega, cut_drop]
    unfold il
    rw [← List.map_drop, List.drop_eq_getElem_cons (show gs.length - 1 < gs.length by omega), List.drop_of_length_le (by omega), List.getLast?_eq_getElem?, List.getElem?_eq_getElem (show gs.length - 1 < gs.length by omega)]
    rfl
theorem atI2 {α : Type} (a b c : α) (l : List α) : atI (a :: b :: c :: l) 2 = some c := atI_nat (j := 2) rfl
def lgok (tp : Top) (q : Row) (o : Option Nat) : Bool := match o with
  | none => true
  | some t => (match (gaps q t).getLast? with | none => true | some g => gok tp t g)
theorem lf3 {m : Nat} (hm : 5 ≤ m) {tp : Top} (ht : tp.length ≤ 3) {p : Nat} {r : Row} (hr : r.length ≤ 8) {o : Option Nat} (ho : ∀ t, o = some t → t < tp.length) {xs : List D} (hx : xs.length < lim) {x2 o3 o4 o8 o9 o10 : Option SV} (h8 : Fr o8) (h9 : Fr o9) (h10 : Fr o10) :
    ∃ o8' o9' o10', Fr o8' ∧ Fr o9' ∧ Fr o10' ∧ evB (Y m) b__law_first_3 (F2 tp p x2 o3 o4 (some (.olst xs)) (some (.dat (rd r))) (some (.dat (od o))) o8 o9 o10) = some (.next, F2 tp p x2 o3 o4 (some (.olst (xs ++ if okst tp r o = true then [rd (r ++ [o])] else []))) (some (.dat (rd r))) (some (.dat (od o))) o8' o9' o10') := by
  have l0 : (0 : Nat) ≤ lim := by decide
  have l1 : (1 : Nat) ≤ lim := by decide
  have ha := add_rd (r := r) (by omega) o
  obtain ⟨q, hq⟩ : ∃ q, q = r ++ [o] := ⟨_, rfl⟩
  have hql : q.length ≤ 9 := by rw [hq, List.length_append, List.length_singleton]; omega
  rw [← hq] at ha ⊢
  -- more
  have s1 : evS (Y m) (.asg 8 (.bin .add (.slot 6) (.val (.tup (.cons (.var 7) .nil))))) (F2 tp p x2 o3 o4 (some (.olst xs)) (some (.dat (rd r))) (some (.dat (od o))) o8 o9 o10) = some (.next, F2 tp p x2 o3 o4 (some (.olst xs)) (some (.dat (rd r))) (some (.dat (od o))) (some (.dat (rd q))) o9 o10) := by
    unfold Fr at h8
    generalize rd q = Q at *
    simp [evB, evS, evE, evL, evO, evOs, evEs, evT, evTs, evI, evC, evP, evDd, evPs, evWs, evG, evGs, fSeq2, aft, fNext, fRet, fIf, fAsg, fAsgL, fAsgT, fAsgD, fPar, fWv, fWl, fW0, setWs, wiS, fLit, fVar, Pf.slotAt, varS, fBin, fNeg, negD, fCmp, fChain, fAnd, fOr, fNot, fBool, boolS, fTest, fIte, fAt, fAtD, fCut, fPart, fNoPart, fOs, fOs0, fFn, fVs, fVs0, fTup, fFresh, fDisp, fTupOf, fListOf, fIsi, fCall, fCallW, fVal, fSlotC, isSet, Pf.rs, Pf.rsS, Pf.rsV, rsAll, rsD, keyD, datS, datsS, setS_s, setS_dv, setS_ol, setS_dat, setS_none, setS_olst, setS_rlst, setS_fdic, setS_odic, gN, gT, gs0, gsC, lenIs, binD, add_ii, subD, mulD, fdivD, modD, cmpD, ordD, isD, isNn, isNi, isNb, isNt, isNl, isiD, at_l, at_t, fn_lenL, fn_lenT, fn_max2, fn_abs, fn_int, fn_intb, intV, seq_l, seq_t, lstV, fApp, fAugD, fAugI, olS, odS, odH, inS, getElem_s, F2, l1, ha, h8]
  -- too many
  obtain ⟨c, hc⟩ : ∃ c : Nat → Bool, c = fun t => decide (cnt q t ≤ tm tp t) := ⟨_, rfl⟩
  have hcomp := comp_map (vs := [11]) (bd := evG (.name 11)) (cond := evC (Y m) c__law_first_1c) (elt := evE (Y m) c__law_first_1e) (f := fun i : Nat => PyData.int (i : Int)) (g := fun i : Nat => PyData.int (i : Int)) (p := fun t => !(c t)) (en := F2 tp p x2 o3 o4 (some (.olst xs)) (some (.dat (rd r))) (some (.dat (od o))) (some (.dat (rd q))) o9 o10) (List.range tp.length) fun t hk => by
    have hk := List.mem_range.mp hk
    have a1 := atD_td hk
    have c1 := lmany_lv (lvm := m) (by omega) (r := q) (by omega) t
    refine ⟨(F2 tp p x2 o3 o4 (some (.olst xs)) (some (.dat (rd r))) (some (.dat (od o))) (some (.dat (rd q))) o9 o10).set 11 (some (.dat (.int (t : Int)))), (F2 tp p x2 o3 o4 (some (.olst xs)) (some (.dat (rd r))) (some (.dat (od o))) (some (.dat (rd q))) o9 o10).set 11 (some (.dat (.int (t : Int)))), rfl, ?_, ?_⟩
    · rw [hc]
      by_cases y : cnt q t ≤ tm tp t
      · have y' : ¬ (tm tp t : Int) < (cnt q t : Int) := by omega
        simp [c__law_first_1c, evB, evS, evE, evL, evO, evOs, evEs, evT, evTs, evI, evC, evP, evDd, evPs, evWs, evG, evGs, fSeq2, aft, fNext, fRet, fIf, fAsg, fAsgL, fAsgT, fAsgD, fPar, fWv, fWl, fW0, setWs, wiS, fLit, fVar, Pf.slotAt, varS, fBin, fNeg, negD, fCmp, fChain, fAnd, fOr, fNot, fBool, boolS, fTest, fIte, fAt, fAtD, fCut, fPart, fNoPart, fOs, fOs0, fFn, fVs, fVs0, fTup, fFresh, fDisp, fTupOf, fListOf, fIsi, fCall, fCallW, fVal, fSlotC, isSet, Pf.rs, Pf.rsS, Pf.rsV, rsAll, rsD, keyD, datS, datsS, setS_s, setS_dv, setS_ol, setS_dat, setS_none, setS_olst, setS_rlst, setS_fdic, setS_odic, gN, gT, gs0, gsC, lenIs, binD, add_ii, subD, mulD, fdivD, modD, cmpD, ordD, isD, isNn, isNi, isNb, isNt, isNl, isiD, at_l, at_t, fn_lenL, fn_lenT, fn_max2, fn_abs, fn_int, fn_intb, intV, seq_l, seq_t, lstV, fApp, fAugD, fAugI, olS, odS, odH, inS, getElem_s, F2, np__law_many, c1, a1, at0, y, y']
      · have y' : (tm tp t : Int) < (cnt q t : Int) := by omega
        simp [c__law_first_1c, evB, evS, evE, evL, evO, evOs, evEs, evT, evTs, evI, evC, evP, evDd, evPs, evWs, evG, evGs, fSeq2, aft, fNext, fRet, fIf, fAsg, fAsgL, fAsgT, fAsgD, fPar, fWv, fWl, fW0, setWs, wiS, fLit, fVar, Pf.slotAt, varS, fBin, fNeg, negD, fCmp, fChain, fAnd, fOr, fNot, fBool, boolS, fTest, fIte, fAt, fAtD, fCut, fPart, fNoPart, fOs, fOs0, fFn, fVs, fVs0, fTup, fFresh, fDisp, fTupOf, fListOf, fIsi, fCall, fCallW, fVal, fSlotC, isSet, Pf.rs, Pf.rsS, Pf.rsV, rsAll, rsD, keyD, datS, datsS, setS_s, setS_dv, setS_ol, setS_dat, setS_none, setS_olst, setS_rlst, setS_fdic, setS_odic, gN, gT, gs0, gsC, lenIs, binD, add_ii, subD, mulD, fdivD, modD, cmpD, ordD, isD, isNn, isNi, isNb, isNt, isNl, isiD, at_l, at_t, fn_lenL, fn_lenT, fn_max2, fn_abs, fn_int, fn_intb, intV, seq_l, seq_t, lstV, fApp, fAugD, fAugI, olS, odS, odH, inS, getElem_s, F2, np__law_many, c1, a1, at0, y, y']
    · split
      · exact ⟨(F2 tp p x2 o3 o4 (some (.olst xs)) (some (.dat (rd r))) (some (.dat (od o))) (some (.dat (rd q))) o9 o10).set 11 (some (.dat (.int (t : Int)))), by simp [c__law_first_1e, evB, evS, evE, evL, evO, evOs, evEs, evT, evTs, evI, evC, evP, evDd, evPs, evWs, evG, evGs, fSeq2, aft, fNext, fRet, fIf, fAsg, fAsgL, fAsgT, fAsgD, fPar, fWv, fWl, fW0, setWs, wiS, fLit, fVar, Pf.slotAt, varS, fBin, fNeg, negD, fCmp, fChain, fAnd, fOr, fNot, fBool, boolS, fTest, fIte, fAt, fAtD, fCut, fPart, fNoPart, fOs, fOs0, fFn, fVs, fVs0, fTup, fFresh, fDisp, fTupOf, fListOf, fIsi, fCall, fCallW, fVal, fSlotC, isSet, Pf.rs, Pf.rsS, Pf.rsV, rsAll, rsD, keyD, datS, datsS, setS_s, setS_dv, setS_ol, setS_dat, setS_none, setS_olst, setS_rlst, setS_fdic, setS_odic, gN, gT, gs0, gsC, lenIs, binD, add_ii, subD, mulD, fdivD, modD, cmpD, ordD, isD, isNn, isNi, isNb, isNt, isNl, isiD, at_l, at_t, fn_lenL, fn_lenT, fn_max2, fn_abs, fn_int, fn_intb, intV, seq_l, seq_t, lstV, fApp, fAugD, fAugI, olS, odS, odH, inS, getElem_s, F2], rfl⟩
      · rfl
  have hc1 : evL (Y m) c__law_first_1 (F2 tp p x2 o3 o4 (some (.olst xs)) (some (.dat (rd r))) (some (.dat (od o))) (some (.dat (rd q))) o9 o10) = some (nl ((List.range tp.length).filter fun t => !(c t)), F2 tp p x2 o3 o4 (some (.olst xs)) (some (.dat (rd r))) (some (.dat (od o))) (some (.dat (rd q))) o9 o10) := by
    unfold c__law_first_1
    refine (comp_ev (ds := rngD 0 tp.length) (en1 := F2 tp p x2 o3 o4 (some (.olst xs)) (some (.dat (rd r))) (some (.dat (od o))) (some (.dat (rd q))) o9 o10) (en2 := F2 tp p x2 o3 o4 (some (.olst xs)) (some (.dat (rd r))) (some (.dat (od o))) (some (.dat (rd q))) o9 o10) (r := nl ((List.range tp.length).filter fun t => !(c t))) ?_ ?_ ?_).trans rfl
    · exact rng1_ev (os := [.val (.dat (.int (tp.length : Int)))]) (m := (tp.length : Int)) (by simp [evB, evS, evE, evL, evO, evOs, evEs, evT, evTs, evI, evC, evP, evDd, evPs, evWs, evG, evGs, fSeq2, aft, fNext, fRet, fIf, fAsg, fAsgL, fAsgT, fAsgD, fPar, fWv, fWl, fW0, setWs, wiS, fLit, fVar, Pf.slotAt, varS, fBin, fNeg, negD, fCmp, fChain, fAnd, fOr, fNot, fBool, boolS, fTest, fIte, fAt, fAtD, fCut, fPart, fNoPart, fOs, fOs0, fFn, fVs, fVs0, fTup, fFresh, fDisp, fTupOf, fListOf, fIsi, fCall, fCallW, fVal, fSlotC, isSet, Pf.rs, Pf.rsS, Pf.rsV, rsAll, rsD, keyD, datS, datsS, setS_s, setS_dv, setS_ol, setS_dat, setS_none, setS_olst, setS_rlst, setS_fdic, setS_odic, gN, gT, gs0, gsC, lenIs, binD, add_ii, subD, mulD, fdivD, modD, cmpD, ordD, isD, isNn, isNi, isNb, isNt, isNl, isiD, at_l, at_t, fn_lenL, fn_lenT, fn_max2, fn_abs, fn_int, fn_intb, intV, seq_l, seq_t, lstV, fApp, fAugD, fAugI, olS, odS, odH, inS, getElem_s, F2, fn_len_td]) (by simp [evB, evS, evE, evL, evO, evOs, evEs, evT, evTs, evI, evC, evP, evDd, evPs, evWs, evG, evGs, fSeq2, aft, fNext, fRet, fIf, fAsg, fAsgL, fAsgT, fAsgD, fPar, fWv, fWl, fW0, setWs, wiS, fLit, fVar, Pf.slotAt, varS, fBin, fNeg, negD, fCmp, fChain, fAnd, fOr, fNot, fBool, boolS, fTest, fIte, fAt, fAtD, fCut, fPart, fNoPart, fOs, fOs0, fFn, fVs, fVs0, fTup, fFresh, fDisp, fTupOf, fListOf, fIsi, fCall, fCallW, fVal, fSlotC, isSet, Pf.rs, Pf.rsS, Pf.rsV, rsAll, rsD, keyD, datS, datsS, setS_s, setS_dv, setS_ol, setS_dat, setS_none, setS_olst, setS_rlst, setS_fdic, setS_odic, gN, gT, gs0, gsC, lenIs, binD, add_ii, subD, mulD, fdivD, modD, cmpD, ordD, isD, isNn, isNi, isNb, isNt, isNl, isiD, at_l, at_t, fn_lenL, fn_lenT, fn_max2, fn_abs, fn_int, fn_intb, intV, seq_l, seq_t, lstV, fApp, fAugD, fAugI, olS, odS, odH, inS, getElem_s]) rfl (by omega)
    · rw [rngD_len]; unfold lim; omega
    · rw [rngD_map]; exact hcomp
  have hb1 := bad_nilN (List.range tp.length) c
  have hok : okst tp r o = ((List.range tp.length).all c && lgok tp q o) := by
    rw [hc, hq]; rfl
  generalize nl ((List.range tp.length).filter fun t => !(c t)) = b1 at *
  have s2 : evS (Y m) (.asgL 9 c__law_first_1) (F2 tp p x2 o3 o4 (some (.olst xs)) (some (.dat (rd r))) (some (.dat (od o))) (some (.dat (rd q))) o9 o10) = some (.next, F2 tp p x2 o3 o4 (some (.olst xs)) (some (.dat (rd r))) (some (.dat (od o))) (some (.dat (rd q))) (some (.olst b1)) o10) := by
    rw [evS]; unfold fAsgL
    rw [hc1, Option.bind_some]
    unfold Fr at h9
    simp [F2, setS_s, h9]
  rw [hok]
  generalize (List.range tp.length).all c = A at *
  have fin : ∀ (b2 : List D) (B : Bool) (w10 : Option SV), eqD (.list b2) (.list []) = some B → evS (Y m) (.ife (.cmp .eq (.slot 9) (.val (.fresh (.disp .nil)))) (.cons (.app 5 (.var 8)) .nil) .nil) (F2 tp p x2 o3 o4 (some (.olst xs)) (some (.dat (rd r))) (some (.dat (od o))) (some (.dat (rd q))) (some (.olst b2)) w10) = some (.next, F2 tp p x2 o3 o4 (some (.olst (xs ++ if B = true then [rd q] else []))) (some (.dat (rd r))) (some (.dat (od o))) (some (.dat (rd q))) (some (.olst b2)) w10) := fun b2 B w10 hB => by
    generalize rd q = Q at *
    cases B with
    | true => simp [evB, evS, evE, evL, evO, evOs, evEs, evT, evTs, evI, evC, evP, evDd, evPs, evWs, evG, evGs, fSeq2, aft, fNext, fRet, fIf, fAsg, fAsgL, fAsgT, fAsgD, fPar, fWv, fWl, fW0, setWs, wiS, fLit, fVar, Pf.slotAt, varS, fBin, fNeg, negD, fCmp, fChain, fAnd, fOr, fNot, fBool, boolS, fTest, fIte, fAt, fAtD, fCut, fPart, fNoPart, fOs, fOs0, fFn, fVs, fVs0, fTup, fFresh, fDisp, fTupOf, fListOf, fIsi, fCall, fCallW, fVal, fSlotC, isSet, Pf.rs, Pf.rsS, Pf.rsV, rsAll, rsD, keyD, datS, datsS, setS_s, setS_dv, setS_ol, setS_dat, setS_none, setS_olst, setS_rlst, setS_fdic, setS_odic, gN, gT, gs0, gsC, lenIs, binD, add_ii, subD, mulD, fdivD, modD, cmpD, ordD, isD, isNn, isNi, isNb, isNt, isNl, isiD, at_l, at_t, fn_lenL, fn_lenT, fn_max2, fn_abs, fn_int, fn_intb, intV, seq_l, seq_t, lstV, fApp, fAugD, fAugI, olS, odS, odH, inS, getElem_s, F2, l0, hB, hx]
    | false => simp [evB, evS, evE, evL, evO, evOs, evEs, evT, evTs, evI, evC, evP, evDd, evPs, evWs, evG, evGs, fSeq2, aft, fNext, fRet, fIf, fAsg, fAsgL, fAsgT, fAsgD, fPar, fWv, fWl, fW0, setWs, wiS, fLit, fVar, Pf.slotAt, varS, fBin, fNeg, negD, fCmp, fChain, fAnd, fOr, fNot, fBool, boolS, fTest, fIte, fAt, fAtD, fCut, fPart, fNoPart, fOs, fOs0, fFn, fVs, fVs0, fTup, fFresh, fDisp, fTupOf, fListOf, fIsi, fCall, fCallW, fVal, fSlotC, isSet, Pf.rs, Pf.rsS, Pf.rsV, rsAll, rsD, keyD, datS, datsS, setS_s, setS_dv, setS_ol, setS_dat, setS_none, setS_olst, setS_rlst, setS_fdic, setS_odic, gN, gT, gs0, gsC, lenIs, binD, add_ii, subD, mulD, fdivD, modD, cmpD, ordD, isD, isNn, isNi, isNb, isNt, isNl, isiD, at_l, at_t, fn_lenL, fn_lenT, fn_max2, fn_abs, fn_int, fn_intb, intV, seq_l, seq_t, lstV, fApp, fAugD, fAugI, olS, odS, odH, inS, getElem_s, F2, l0, hB]
  cases o with
  | none =>
    refine ⟨some (.dat (rd q)), some (.olst b1), o10, Fr_dat _, Fr_olst _, h10, B_next s1 (B_next s2 (B_next (en1 := F2 tp p x2 o3 o4 (some (.olst xs)) (some (.dat (rd r))) (some (.dat (od none))) (some (.dat (rd q))) (some (.olst b1)) o10) ?_ (B_next ?_ rfl)))⟩
    · have e : od none = .none := rfl
      rw [e]
      simp [evB, evS, evE, evL, evO, evOs, evEs, evT, evTs, evI, evC, evP, evDd, evPs, evWs, evG, evGs, fSeq2, aft, fNext, fRet, fIf, fAsg, fAsgL, fAsgT, fAsgD, fPar, fWv, fWl, fW0, setWs, wiS, fLit, fVar, Pf.slotAt, varS, fBin, fNeg, negD, fCmp, fChain, fAnd, fOr, fNot, fBool, boolS, fTest, fIte, fAt, fAtD, fCut, fPart, fNoPart, fOs, fOs0, fFn, fVs, fVs0, fTup, fFresh, fDisp, fTupOf, fListOf, fIsi, fCall, fCallW, fVal, fSlotC, isSet, Pf.rs, Pf.rsS, Pf.rsV, rsAll, rsD, keyD, datS, datsS, setS_s, setS_dv, setS_ol, setS_dat, setS_none, setS_olst, setS_rlst, setS_fdic, setS_odic, gN, gT, gs0, gsC, lenIs, binD, add_ii, subD, mulD, fdivD, modD, cmpD, ordD, isD, isNn, isNi, isNb, isNt, isNl, isiD, at_l, at_t, fn_lenL, fn_lenT, fn_max2, fn_abs, fn_int, fn_intb, intV, seq_l, seq_t, lstV, fApp, fAugD, fAugI, olS, odS, odH, inS, getElem_s, F2]
    · rw [fin b1 A o10 hb1]
      cases A <;> rfl
  | some t =>
    have htl := ho t rfl
    have hn : isN (od (some t)) = false := rfl
    cases A with
    | false =>
      refine ⟨some (.dat (rd q)), some (.olst b1), o10, Fr_dat _, Fr_olst _, h10, B_next s1 (B_next s2 (B_next (en1 := F2 tp p x2 o3 o4 (some (.olst xs)) (some (.dat (rd r))) (some (.dat (od (some t)))) (some (.dat (rd q))) (some (.olst b1)) o10) ?_ (B_next (fin b1 false o10 hb1) rfl)))⟩
      generalize od (some t) = T0 at *
      simp [evB, evS, evE, evL, evO, evOs, evEs, evT, evTs, evI, evC, evP, evDd, evPs, evWs, evG, evGs, fSeq2, aft, fNext, fRet, fIf, fAsg, fAsgL, fAsgT, fAsgD, fPar, fWv, fWl, fW0, setWs, wiS, fLit, fVar, Pf.slotAt, varS, fBin, fNeg, negD, fCmp, fChain, fAnd, fOr, fNot, fBool, boolS, fTest, fIte, fAt, fAtD, fCut, fPart, fNoPart, fOs, fOs0, fFn, fVs, fVs0, fTup, fFresh, fDisp, fTupOf, fListOf, fIsi, fCall, fCallW, fVal, fSlotC, isSet, Pf.rs, Pf.rsS, Pf.rsV, rsAll, rsD, keyD, datS, datsS, setS_s, setS_dv, setS_ol, setS_dat, setS_none, setS_olst, setS_rlst, setS_fdic, setS_odic, gN, gT, gs0, gsC, lenIs, binD, add_ii, subD, mulD, fdivD, modD, cmpD, ordD, isD, isNn, isNi, isNb, isNt, isNl, isiD, at_l, at_t, fn_lenL, fn_lenT, fn_max2, fn_abs, fn_int, fn_intb, intV, seq_l, seq_t, lstV, fApp, fAugD, fAugI, olS, odS, odH, inS, getElem_s, F2, hn, l0, hb1]
    | true =>
      have c1 := lgaps_lv (lvm := m) (by omega) (r := q) (by omega) t
      have hcl := cut_last (gaps q t)
      have hll : fnD .len [.list (il (gaps q t))] = some (.int ((gaps q t).length : Int)) := by rw [fn_lenL]; unfold il; rw [List.length_map]
      have a1 := atD_td htl
      have hT : od (some t) = .int (t : Int) := rfl
      obtain ⟨en0, hen0⟩ : ∃ en0, en0 = F2 tp p x2 o3 o4 (some (.olst xs)) (some (.dat (rd r))) (some (.dat (od (some t)))) (some (.dat (rd q))) (some (.olst b1)) (some (.dat (.list (il (gaps q t))))) := ⟨_, rfl⟩
      have hcomp2 := comp_map (vs := [12]) (bd := evG (.name 12)) (cond := evC (Y m) c__law_first_2c) (elt := evE (Y m) c__law_first_2e) (f := PyData.int) (g := PyData.int) (p := fun g => !(gok tp t g)) (en := en0) (gaps q t).getLast?.toList fun g hg => by
        refine ⟨en0.set 12 (some (.dat (.int g))), en0.set 12 (some (.dat (.int g))), by rw [hen0]; rfl, ?_, ?_⟩
        · rw [hen0]
          unfold gok
          generalize il (gaps q t) = gs at *
          by_cases y1 : (le' tp t : Int) ≤ g
          · by_cases y2 : g ≤ (mo tp t : Int)
            · simp [c__law_first_2c, evB, evS, evE, evL, evO, evOs, evEs, evT, evTs, evI, evC, evP, evDd, evPs, evWs, evG, evGs, fSeq2, aft, fNext, fRet, fIf, fAsg, fAsgL, fAsgT, fAsgD, fPar, fWv, fWl, fW0, setWs, wiS, fLit, fVar, Pf.slotAt, varS, fBin, fNeg, negD, fCmp, fChain, fAnd, fOr, fNot, fBool, boolS, fTest, fIte, fAt, fAtD, fCut, fPart, fNoPart, fOs, fOs0, fFn, fVs, fVs0, fTup, fFresh, fDisp, fTupOf, fListOf, fIsi, fCall, fCallW, fVal, fSlotC, isSet, Pf.rs, Pf.rsS, Pf.rsV, rsAll, rsD, keyD, datS, datsS, setS_s, setS_dv, setS_ol, setS_dat, setS_none, setS_olst, setS_rlst, setS_fdic, setS_odic, gN, gT, gs0, gsC, lenIs, binD, add_ii, subD, mulD, fdivD, modD, cmpD, ordD, isD, isNn, isNi, isNb, isNt, isNl, isiD, at_l, at_t, fn_lenL, fn_lenT, fn_max2, fn_abs, fn_int, fn_intb, intV, seq_l, seq_t, lstV, fApp, fAugD, fAugI, olS, odS, odH, inS, getElem_s, F2, hT, a1, at1, atI2, y1, y2]
            · simp [c__law_first_2c, evB, evS, evE, evL, evO, evOs, evEs, evT, evTs, evI, evC, evP, evDd, evPs, evWs, evG, evGs, fSeq2, aft, fNext, fRet, fIf, fAsg, fAsgL, fAsgT, fAsgD, fPar, fWv, fWl, fW0, setWs, wiS, fLit, fVar, Pf.slotAt, varS, fBin, fNeg, negD, fCmp, fChain, fAnd, fOr, fNot, fBool, boolS, fTest, fIte, fAt, fAtD, fCut, fPart, fNoPart, fOs, fOs0, fFn, fVs, fVs0, fTup, fFresh, fDisp, fTupOf, fListOf, fIsi, fCall, fCallW, fVal, fSlotC, isSet, Pf.rs, Pf.rsS, Pf.rsV, rsAll, rsD, keyD, datS, datsS, setS_s, setS_dv, setS_ol, setS_dat, setS_none, setS_olst, setS_rlst, setS_fdic, setS_odic, gN, gT, gs0, gsC, lenIs, binD, add_ii, subD, mulD, fdivD, modD, cmpD, ordD, isD, isNn, isNi, isNb, isNt, isNl, isiD, at_l, at_t, fn_lenL, fn_lenT, fn_max2, fn_abs, fn_int, fn_intb, intV, seq_l, seq_t, lstV, fApp, fAugD, fAugI, olS, odS, odH, inS, getElem_s, F2, hT, a1, at1, atI2, y1, y2]
          · simp [c__law_first_2c, evB, evS, evE, evL, evO, evOs, evEs, evT, evTs, evI, evC, evP, evDd, evPs, evWs, evG, evGs, fSeq2, aft, fNext, fRet, fIf, fAsg, fAsgL, fAsgT, fAsgD, fPar, fWv, fWl, fW0, setWs, wiS, fLit, fVar, Pf.slotAt, varS, fBin, fNeg, negD, fCmp, fChain, fAnd, fOr, fNot, fBool, boolS, fTest, fIte, fAt, fAtD, fCut, fPart, fNoPart, fOs, fOs0, fFn, fVs, fVs0, fTup, fFresh, fDisp, fTupOf, fListOf, fIsi, fCall, fCallW, fVal, fSlotC, isSet, Pf.rs, Pf.rsS, Pf.rsV, rsAll, rsD, keyD, datS, datsS, setS_s, setS_dv, setS_ol, setS_dat, setS_none, setS_olst, setS_rlst, setS_fdic, setS_odic, gN, gT, gs0, gsC, lenIs, binD, add_ii, subD, mulD, fdivD, modD, cmpD, ordD, isD, isNn, isNi, isNb, isNt, isNl, isiD, at_l, at_t, fn_lenL, fn_lenT, fn_max2, fn_abs, fn_int, fn_intb, intV, seq_l, seq_t, lstV, fApp, fAugD, fAugI, olS, odS, odH, inS, getElem_s, F2, hT, a1, at1, atI2, y1]
        · have w1 : wipeE (en0.set 12 (some (.dat (.int g)))) [12] = en0 := by rw [hen0]; rfl
          split
          · exact ⟨en0.set 12 (some (.dat (.int g))), by rw [hen0]; generalize il (gaps q t) = gs; simp [c__law_first_2e, evB, evS, evE, evL, evO, evOs, evEs, evT, evTs, evI, evC, evP, evDd, evPs, evWs, evG, evGs, fSeq2, aft, fNext, fRet, fIf, fAsg, fAsgL, fAsgT, fAsgD, fPar, fWv, fWl, fW0, setWs, wiS, fLit, fVar, Pf.slotAt, varS, fBin, fNeg, negD, fCmp, fChain, fAnd, fOr, fNot, fBool, boolS, fTest, fIte, fAt, fAtD, fCut, fPart, fNoPart, fOs, fOs0, fFn, fVs, fVs0, fTup, fFresh, fDisp, fTupOf, fListOf, fIsi, fCall, fCallW, fVal, fSlotC, isSet, Pf.rs, Pf.rsS, Pf.rsV, rsAll, rsD, keyD, datS, datsS, setS_s, setS_dv, setS_ol, setS_dat, setS_none, setS_olst, setS_rlst, setS_fdic, setS_odic, gN, gT, gs0, gsC, lenIs, binD, add_ii, subD, mulD, fdivD, modD, cmpD, ordD, isD, isNn, isNi, isNb, isNt, isNl, isiD, at_l, at_t, fn_lenL, fn_lenT, fn_max2, fn_abs, fn_int, fn_intb, intV, seq_l, seq_t, lstV, fApp, fAugD, fAugI, olS, odS, odH, inS, getElem_s, F2], w1⟩
          · exact w1
      have hc2 : evL (Y m) c__law_first_2 en0 = some (((gaps q t).getLast?.toList.filter fun g => !(gok tp t g)).map PyData.int, en0) := by
        have w0 : wipeE en0 [12] = en0 := by rw [hen0]; rfl
        have w2 : unwipe en0 en0 [12] = en0 := by rw [hen0]; rfl
        unfold c__law_first_2
        refine (comp_ev (ds := il (gaps q t).getLast?.toList) (en1 := en0) (en2 := en0) (r := ((gaps q t).getLast?.toList.filter fun g => !(gok tp t g)).map PyData.int) ?_ ?_ ?_).trans (by show some (_, unwipe en0 en0 [12]) = _; rw [w2])
        · unfold c__law_first_2i
          rw [evI]; unfold fSeq
          rw [hen0]
          simp only [fn_lenL] at hll
          generalize il (gaps q t) = gs at *
          generalize il (gaps q t).getLast?.toList = ls at *
          simp [evB, evS, evE, evL, evO, evOs, evEs, evT, evTs, evI, evC, evP, evDd, evPs, evWs, evG, evGs, fSeq2, aft, fNext, fRet, fIf, fAsg, fAsgL, fAsgT, fAsgD, fPar, fWv, fWl, fW0, setWs, wiS, fLit, fVar, Pf.slotAt, varS, fBin, fNeg, negD, fCmp, fChain, fAnd, fOr, fNot, fBool, boolS, fTest, fIte, fAt, fAtD, fCut, fPart, fNoPart, fOs, fOs0, fFn, fVs, fVs0, fTup, fFresh, fDisp, fTupOf, fListOf, fIsi, fCall, fCallW, fVal, fSlotC, isSet, Pf.rs, Pf.rsS, Pf.rsV, rsAll, rsD, keyD, datS, datsS, setS_s, setS_dv, setS_ol, setS_dat, setS_none, setS_olst, setS_rlst, setS_fdic, setS_odic, gN, gT, gs0, gsC, lenIs, binD, add_ii, subD, mulD, fdivD, modD, cmpD, ordD, isD, isNn, isNi, isNb, isNt, isNl, isiD, at_l, at_t, fn_lenL, fn_lenT, fn_max2, fn_abs, fn_int, fn_intb, intV, seq_l, seq_t, lstV, fApp, fAugD, fAugI, olS, odS, odH, inS, getElem_s, F2]
          have hll' : (gs.length : Int) = ((gaps q t).length : Int) := by injection (Option.some.inj hll)
          rw [hll', hcl]
          rfl
        · unfold il
          rw [List.length_map]
          cases (gaps q t).getLast? with
          | none => exact Nat.zero_le _
          | some _ => exact l1
        · show cLoop [12] _ _ _ _ (wipeE en0 [12]) = _
          rw [w0]; exact hcomp2
      have hb2 := bad_nil (gaps q t).getLast?.toList (gok tp t)
      have hB : (gaps q t).getLast?.toList.all (gok tp t) = (match (gaps q t).getLast? with | none => true | some g => gok tp t g) := by
        cases (gaps q t).getLast? with
        | none => rfl
        | some g => simp
      rw [hB] at hb2
      refine ⟨some (.dat (rd q)), some (.olst (((gaps q t).getLast?.toList.filter fun g => !(gok tp t g)).map PyData.int)), some (.dat (.list (il (gaps q t)))), Fr_dat _, Fr_olst _, Fr_dat _, B_next s1 (B_next s2 (B_next (en1 := F2 tp p x2 o3 o4 (some (.olst xs)) (some (.dat (rd r))) (some (.dat (od (some t)))) (some (.dat (rd q))) (some (.olst (((gaps q t).getLast?.toList.filter fun g => !(gok tp t g)).map PyData.int))) (some (.dat (.list (il (gaps q t)))))) ?_ (B_next (fin _ _ _ hb2) ?_)))⟩
      · have k1 : evS (Y m) (.asg 10 (.call "_law_gaps" 18 (.cons (.var 8) (.cons (.var 7) .nil)))) (F2 tp p x2 o3 o4 (some (.olst xs)) (some (.dat (rd r))) (some (.dat (od (some t)))) (some (.dat (rd q))) (some (.olst b1)) o10) = some (.next, en0) := by
          rw [hen0]
          unfold Fr at h10
          generalize il (gaps q t) = gs at *
          simp [evB, evS, evE, evL, evO, evOs, evEs, evT, evTs, evI, evC, evP, evDd, evPs, evWs, evG, evGs, fSeq2, aft, fNext, fRet, fIf, fAsg, fAsgL, fAsgT, fAsgD, fPar, fWv, fWl, fW0, setWs, wiS, fLit, fVar, Pf.slotAt, varS, fBin, fNeg, negD, fCmp, fChain, fAnd, fOr, fNot, fBool, boolS, fTest, fIte, fAt, fAtD, fCut, fPart, fNoPart, fOs, fOs0, fFn, fVs, fVs0, fTup, fFresh, fDisp, fTupOf, fListOf, fIsi, fCall, fCallW, fVal, fSlotC, isSet, Pf.rs, Pf.rsS, Pf.rsV, rsAll, rsD, keyD, datS, datsS, setS_s, setS_dv, setS_ol, setS_dat, setS_none, setS_olst, setS_rlst, setS_fdic, setS_odic, gN, gT, gs0, gsC, lenIs, binD, add_ii, subD, mulD, fdivD, modD, cmpD, ordD, isD, isNn, isNi, isNb, isNt, isNl, isiD, at_l, at_t, fn_lenL, fn_lenT, fn_max2, fn_abs, fn_int, fn_intb, intV, seq_l, seq_t, lstV, fApp, fAugD, fAugI, olS, odS, odH, inS, getElem_s, F2, hT, np__law_gaps, c1, h10]
        have k2 : evS (Y m) (.asgL 9 c__law_first_2) en0 = some (.next, F2 tp p x2 o3 o4 (some (.olst xs)) (some (.dat (rd r))) (some (.dat (od (some t)))) (some (.dat (rd q))) (some (.olst (((gaps q t).getLast?.toList.filter fun g => !(gok tp t g)).map PyData.int))) (some (.dat (.list (il (gaps q t)))))) := by
          rw [evS]; unfold fAsgL
          rw [hc2, Option.bind_some, hen0]
          simp [F2, setS_s, setS_olst]
        have k3 : evT (Y m) (.and (.cons (.cmp .isnot (.slot 7) (.val (.lit .none))) (.one (.cmp .eq (.slot 9) (.val (.fresh (.disp .nil))))))) (F2 tp p x2 o3 o4 (some (.olst xs)) (some (.dat (rd r))) (some (.dat (od (some t)))) (some (.dat (rd q))) (some (.olst b1)) o10) = some (true, F2 tp p x2 o3 o4 (some (.olst xs)) (some (.dat (rd r))) (some (.dat (od (some t)))) (some (.dat (rd q))) (some (.olst b1)) o10) := by
          generalize od (some t) = T0 at *
          simp [evB, evS, evE, evL, evO, evOs, evEs, evT, evTs, evI, evC, evP, evDd, evPs, evWs, evG, evGs, fSeq2, aft, fNext, fRet, fIf, fAsg, fAsgL, fAsgT, fAsgD, fPar, fWv, fWl, fW0, setWs, wiS, fLit, fVar, Pf.slotAt, varS, fBin, fNeg, negD, fCmp, fChain, fAnd, fOr, fNot, fBool, boolS, fTest, fIte, fAt, fAtD, fCut, fPart, fNoPart, fOs, fOs0, fFn, fVs, fVs0, fTup, fFresh, fDisp, fTupOf, fListOf, fIsi, fCall, fCallW, fVal, fSlotC, isSet, Pf.rs, Pf.rsS, Pf.rsV, rsAll, rsD, keyD, datS, datsS, setS_s, setS_dv, setS_ol, setS_dat, setS_none, setS_olst, setS_rlst, setS_fdic, setS_odic, gN, gT, gs0, gsC, lenIs, binD, add_ii, subD, mulD, fdivD, modD, cmpD, ordD, isD, isNn, isNi, isNb, isNt, isNl, isiD, at_l, at_t, fn_lenL, fn_lenT, fn_max2, fn_abs, fn_int, fn_intb, intV, seq_l, seq_t, lstV, fApp, fAugD, fAugI, olS, odS, odH, inS, getElem_s, F2, hn, l0, hb1]
        rw [evS]
        unfold fIf
        rw [k3, Option.bind_some]
        exact B_next k1 (B_next k2 rfl)
      · rfl


end K31

set_option maxHeartbeats 4000000
namespace K31
open PySem L2 Pf
theorem opts_in {tp : Top} {o : Option Nat} (h : o ∈ opts tp) : ∀ t, o = some t → t < tp.length := fun t e => by
  subst e
  unfold opts at h
  rcases List.mem_append.mp h with q | q
  · obtain ⟨a, ha, hb⟩ := List.mem_map.mp q
    cases hb
    exact List.mem_range.mp ha
  · cases List.mem_singleton.mp q
theorem opts_len (tp : Top) : (opts tp).length = tp.length + 1 := by
  unfold opts
  rw [List.length_append, List.length_map, List.length_range]
  rfl
theorem lf2 {m : Nat} (hm : 5 ≤ m) {tp : Top} (ht : tp.length ≤ 3) {p : Nat} {r : Row} (hr : r.length ≤ 8) {xs : List D} (hx : xs.length + 10 < lim) {x2 o3 o4 o7 o8 o9 o10 : Option SV} (h7 : Fr o7) (h8 : Fr o8) (h9 : Fr o9) (h10 : Fr o10) :
    ∃ o7' o8' o9' o10', Fr o7' ∧ Fr o8' ∧ Fr o9' ∧ Fr o10' ∧ evB (Y m) b__law_first_2 (F2 tp p x2 o3 o4 (some (.olst xs)) (some (.dat (rd r))) o7 o8 o9 o10) = some (.next, F2 tp p x2 o3 o4 (some (.olst (xs ++ (ext tp r).map rd))) (some (.dat (rd r))) o7' o8' o9' o10') := by
  obtain ⟨en', a1, o7', o8', o9', o10', f7, f8, f9, f10, rfl⟩ := loop_inv (bd := evG (.name 7)) (body := evB (Y m) b__law_first_3) (P := fun i en => ∃ o7 o8 o9 o10, Fr o7 ∧ Fr o8 ∧ Fr o9 ∧ Fr o10 ∧ en = F2 tp p x2 o3 o4 (some (.olst (xs ++ (((opts tp).take i).filter (okst tp r)).map fun o => rd (r ++ [o])))) (some (.dat (rd r))) o7 o8 o9 o10) ((opts tp).map od) 0 (F2 tp p x2 o3 o4 (some (.olst xs)) (some (.dat (rd r))) o7 o8 o9 o10) ⟨o7, o8, o9, o10, h7, h8, h9, h10, by rw [List.take_zero]; simp⟩ fun j d en hd hP => by
    obtain ⟨o7, o8, o9, o10, h7, h8, h9, h10, rfl⟩ := hP
    rw [Nat.zero_add]
    obtain ⟨o, ho, rfl⟩ : ∃ o, (opts tp)[j]? = some o ∧ d = od o := by
      rw [List.getElem?_map] at hd
      obtain ⟨o, e1, e2⟩ := Option.map_eq_some_iff.mp hd
      exact ⟨o, e1, e2.symm⟩
    have et : (opts tp).take (j + 1) = (opts tp).take j ++ [o] := by rw [List.take_add_one, ho]; rfl
    have hlen : (xs ++ (((opts tp).take j).filter (okst tp r)).map fun o => rd (r ++ [o])).length < lim := by
      rw [List.length_append, List.length_map]
      have h1 := List.length_filter_le (okst tp r) ((opts tp).take j)
      have h2 : ((opts tp).take j).length ≤ tp.length + 1 := by rw [List.length_take, opts_len]; omega
      omega
    obtain ⟨o8', o9', o10', f8, f9, f10, e⟩ := lf3 (p := p) (x2 := x2) (o3 := o3) (o4 := o4) hm ht hr (o := o) (opts_in (List.mem_of_getElem? ho)) hlen h8 h9 h10
    refine ⟨F2 tp p x2 o3 o4 (some (.olst (xs ++ (((opts tp).take j).filter (okst tp r)).map fun o => rd (r ++ [o])))) (some (.dat (rd r))) (some (.dat (od o))) o8 o9 o10, _, ?_, e, some (.dat (od o)), o8', o9', o10', Fr_dat _, f8, f9, f10, ?_⟩
    · unfold Fr at h7
      show setS 7 (.dat (od o)) _ = _
      simp [F2, setS_s, h7]
    · rw [et, List.filter_append, List.map_append, ← List.append_assoc]
      congr 3
      cases hk : okst tp r o <;> simp [List.filter_cons, hk]
  rw [List.length_map, Nat.zero_add, List.take_of_length_le (Nat.le_refl _)] at a1
  refine ⟨o7', o8', o9', o10', f7, f8, f9, f10, ?_⟩
  have e2 : (ext tp r).map rd = ((opts tp).filter (okst tp r)).map fun o => rd (r ++ [o]) := by
    unfold ext
    rw [List.map_map]
    rfl
  rw [e2]
  unfold b__law_first_2
  refine B_next (for_next (ds := (opts tp).map od) (en1 := F2 tp p x2 o3 o4 (some (.olst xs)) (some (.dat (rd r))) o7 o8 o9 o10) ?_ a1) rfl
  have hadd : addD (.list (rngD 0 tp.length)) (.list [.none]) = some (.list ((opts tp).map od)) := by
    show (if _ then some (PyData.list _) else none) = _
    rw [if_pos (by rw [rngD_len]; show _ + 1 ≤ lim; unfold lim; omega), rngD_map]
    unfold opts
    rw [List.map_append, List.map_map]
    rfl
  have l1 : (1 : Nat) ≤ lim := by decide
  have hq1 : evO (Y m) (.val (.fresh (.ofR1 (.val (.fn .len (.cons (.slot 0) .nil)))))) (F2 tp p x2 o3 o4 (some (.olst xs)) (some (.dat (rd r))) o7 o8 o9 o10) = some (.val (.dat (.list (rngD 0 tp.length))), F2 tp p x2 o3 o4 (some (.olst xs)) (some (.dat (rd r))) o7 o8 o9 o10) := by
    have q : evO (Y m) (.val (.fn .len (.cons (.slot 0) .nil))) (F2 tp p x2 o3 o4 (some (.olst xs)) (some (.dat (rd r))) o7 o8 o9 o10) = some (.val (.dat (.int (tp.length : Int))), F2 tp p x2 o3 o4 (some (.olst xs)) (some (.dat (rd r))) o7 o8 o9 o10) := by simp [evB, evS, evE, evL, evO, evOs, evEs, evT, evTs, evI, evC, evP, evDd, evPs, evWs, evG, evGs, fSeq2, aft, fNext, fRet, fIf, fAsg, fAsgL, fAsgT, fAsgD, fPar, fWv, fWl, fW0, setWs, wiS, fLit, fVar, Pf.slotAt, varS, fBin, fNeg, negD, fCmp, fChain, fAnd, fOr, fNot, fBool, boolS, fTest, fIte, fAt, fAtD, fCut, fPart, fNoPart, fOs, fOs0, fFn, fVs, fVs0, fTup, fFresh, fDisp, fTupOf, fListOf, fIsi, fCall, fCallW, fVal, fSlotC, isSet, Pf.rs, Pf.rsS, Pf.rsV, rsAll, rsD, keyD, datS, datsS, setS_s, setS_dv, setS_ol, setS_dat, setS_none, setS_olst, setS_rlst, setS_fdic, setS_odic, gN, gT, gs0, gsC, lenIs, binD, add_ii, subD, mulD, fdivD, modD, cmpD, ordD, isD, isNn, isNi, isNb, isNt, isNl, isiD, at_l, at_t, fn_lenL, fn_lenT, fn_max2, fn_abs, fn_int, fn_intb, intV, seq_l, seq_t, lstV, fApp, fAugD, fAugI, olS, odS, odH, inS, getElem_s, F2, fn_len_td]
    rw [evO]; unfold fVal
    rw [evE]; unfold fFresh
    rw [evL]; unfold fOfR1
    rw [q, Option.bind_some]
    show Option.bind (Option.bind (if (tp.length : Int) ≤ 1000000 ∧ -1000000 ≤ (tp.length : Int) then some (rngD 0 (tp.length : Int).toNat, _) else none) _) _ = _
    rw [if_pos (by omega), Int.toNat_natCast]
    rfl
  have hq2 : evO (Y m) (.val (.fresh (.disp (.cons (.lit .none) .nil)))) (F2 tp p x2 o3 o4 (some (.olst xs)) (some (.dat (rd r))) o7 o8 o9 o10) = some (.val (.dat (.list [.none])), F2 tp p x2 o3 o4 (some (.olst xs)) (some (.dat (rd r))) o7 o8 o9 o10) := by
    simp [evB, evS, evE, evL, evO, evOs, evEs, evT, evTs, evI, evC, evP, evDd, evPs, evWs, evG, evGs, fSeq2, aft, fNext, fRet, fIf, fAsg, fAsgL, fAsgT, fAsgD, fPar, fWv, fWl, fW0, setWs, wiS, fLit, fVar, Pf.slotAt, varS, fBin, fNeg, negD, fCmp, fChain, fAnd, fOr, fNot, fBool, boolS, fTest, fIte, fAt, fAtD, fCut, fPart, fNoPart, fOs, fOs0, fFn, fVs, fVs0, fTup, fFresh, fDisp, fTupOf, fListOf, fIsi, fCall, fCallW, fVal, fSlotC, isSet, Pf.rs, Pf.rsS, Pf.rsV, rsAll, rsD, keyD, datS, datsS, setS_s, setS_dv, setS_ol, setS_dat, setS_none, setS_olst, setS_rlst, setS_fdic, setS_odic, gN, gT, gs0, gsC, lenIs, binD, add_ii, subD, mulD, fdivD, modD, cmpD, ordD, isD, isNn, isNi, isNb, isNt, isNl, isiD, at_l, at_t, fn_lenL, fn_lenT, fn_max2, fn_abs, fn_int, fn_intb, intV, seq_l, seq_t, lstV, fApp, fAugD, fAugI, olS, odS, odH, inS, getElem_s, F2, l1]
  rw [evI]; unfold fSeq
  rw [evE]; unfold fBin
  rw [hq1, Option.bind_some, hq2, Option.bind_some]
  show Option.bind (Option.bind (addD (.list (rngD 0 tp.length)) (.list [.none])) _) _ = _
  rw [hadd]
  rfl
theorem levs_big {tp : Top} (ht : tp.length ≤ 3) {i : Nat} (hi : i ≤ 6) : (levs tp i).length ≤ 4096 := by
  have h1 := levs_len tp i
  have h2 : (tp.length + 1) ^ i ≤ 4 ^ i := Nat.pow_le_pow_left (by omega) i
  have h3 : 4 ^ i ≤ 4 ^ 6 := Nat.pow_le_pow_right (by decide) hi
  have h4 : (4 : Nat) ^ 6 = 4096 := by decide
  omega
theorem lf1 {m : Nat} (hm : 5 ≤ m) {tp : Top} (ht : tp.length ≤ 3) {p i : Nat} (hi : i + 1 ≤ 6) {o3 o4 o5 o6 o7 o8 o9 o10 : Option SV} (h5 : Fr o5) (h6 : Fr o6) (h7 : Fr o7) (h8 : Fr o8) (h9 : Fr o9) (h10 : Fr o10) :
    ∃ o6' o7' o8' o9' o10', Fr o6' ∧ Fr o7' ∧ Fr o8' ∧ Fr o9' ∧ Fr o10' ∧ evB (Y m) b__law_first_1 (F2 tp p (some (.dat (.list ((levs tp i).map rd)))) o3 o4 o5 o6 o7 o8 o9 o10) = some (.next, F2 tp p (some (.dat (.list ((levs tp (i + 1)).map rd)))) o3 o4 (some (.dat (.list ((levs tp (i + 1)).map rd)))) o6' o7' o8' o9' o10') := by
  have hbig := levs_big ht (i := i) (by omega)
  obtain ⟨L, hL⟩ : ∃ L, L = levs tp i := ⟨_, rfl⟩
  have hlm : ∀ r ∈ L, r.length ≤ 8 := fun r hr => by
    rw [hL] at hr
    have := (levs_in tp i r hr).1
    omega
  have hnext : levs tp (i + 1) = L.flatMap (ext tp) := by rw [hL]; rfl
  rw [hnext]
  rw [← hL] at hbig ⊢
  have l0 : (0 : Nat) ≤ lim := by decide
  obtain ⟨en', a1, o6', o7', o8', o9', o10', f6, f7, f8, f9, f10, rfl⟩ := loop_inv (bd := evG (.name 6)) (body := evB (Y m) b__law_first_2) (P := fun j en => ∃ o6 o7 o8 o9 o10, Fr o6 ∧ Fr o7 ∧ Fr o8 ∧ Fr o9 ∧ Fr o10 ∧ en = F2 tp p (some (.dat (.list (L.map rd)))) o3 o4 (some (.olst (((L.take j).flatMap (ext tp)).map rd))) o6 o7 o8 o9 o10) (L.map rd) 0 (F2 tp p (some (.dat (.list (L.map rd)))) o3 o4 (some (.olst [])) o6 o7 o8 o9 o10) ⟨o6, o7, o8, o9, o10, h6, h7, h8, h9, h10, rfl⟩ fun j d en hd hP => by
    obtain ⟨o6, o7, o8, o9, o10, h6, h7, h8, h9, h10, rfl⟩ := hP
    rw [Nat.zero_add]
    obtain ⟨r, ho, rfl⟩ : ∃ r, L[j]? = some r ∧ d = rd r := by
      rw [List.getElem?_map] at hd
      obtain ⟨o, e1, e2⟩ := Option.map_eq_some_iff.mp hd
      exact ⟨o, e1, e2.symm⟩
    have et : L.take (j + 1) = L.take j ++ [r] := by rw [List.take_add_one, ho]; rfl
    have hlen : (((L.take j).flatMap (ext tp)).map rd).length + 10 < lim := by
      have key : ∀ M : List Row, (M.flatMap (ext tp)).length ≤ 4 * M.length := by
        intro M
        induction M with
        | nil => simp
        | cons r M ih =>
          rw [List.flatMap_cons, List.length_append, List.length_cons]
          have := ext_len tp r
          omega
      have h1 := key (L.take j)
      have h2 : (L.take j).length ≤ L.length := by rw [List.length_take]; omega
      rw [List.length_map]
      unfold lim
      omega
    obtain ⟨o7', o8', o9', o10', f7, f8, f9, f10, e⟩ := lf2 (p := p) (x2 := some (.dat (.list (L.map rd)))) (o3 := o3) (o4 := o4) hm ht (hlm r (List.mem_of_getElem? ho)) hlen h7 h8 h9 h10
    refine ⟨F2 tp p (some (.dat (.list (L.map rd)))) o3 o4 (some (.olst (((L.take j).flatMap (ext tp)).map rd))) (some (.dat (rd r))) o7 o8 o9 o10, _, ?_, e, some (.dat (rd r)), o7', o8', o9', o10', Fr_dat _, f7, f8, f9, f10, ?_⟩
    · unfold Fr at h6
      show setS 6 (.dat (rd r)) _ = _
      simp [F2, setS_s, h6]
    · rw [et, List.flatMap_append, List.map_append]
      simp
  rw [List.length_map, Nat.zero_add, List.take_of_length_le (Nat.le_refl _)] at a1
  refine ⟨o6', o7', o8', o9', o10', f6, f7, f8, f9, f10, ?_⟩
  unfold b__law_first_1
  refine B_next (en1 := F2 tp p (some (.dat (.list (L.map rd)))) o3 o4 (some (.olst [])) o6 o7 o8 o9 o10) ?_ (B_next (for_next (ds := L.map rd) (en1 := F2 tp p (some (.dat (.list (L.map rd)))) o3 o4 (some (.olst [])) o6 o7 o8 o9 o10) ?_ a1) (B_next ?_ rfl))
  · unfold Fr at h5
    generalize L.map rd = xs
    simp [evB, evS, evE, evL, evO, evOs, evEs, evT, evTs, evI, evC, evP, evDd, evPs, evWs, evG, evGs, fSeq2, aft, fNext, fRet, fIf, fAsg, fAsgL, fAsgT, fAsgD, fPar, fWv, fWl, fW0, setWs, wiS, fLit, fVar, Pf.slotAt, varS, fBin, fNeg, negD, fCmp, fChain, fAnd, fOr, fNot, fBool, boolS, fTest, fIte, fAt, fAtD, fCut, fPart, fNoPart, fOs, fOs0, fFn, fVs, fVs0, fTup, fFresh, fDisp, fTupOf, fListOf, fIsi, fCall, fCallW, fVal, fSlotC, isSet, Pf.rs, Pf.rsS, Pf.rsV, rsAll, rsD, keyD, datS, datsS, setS_s, setS_dv, setS_ol, setS_dat, setS_none, setS_olst, setS_rlst, setS_fdic, setS_odic, gN, gT, gs0, gsC, lenIs, binD, add_ii, subD, mulD, fdivD, modD, cmpD, ordD, isD, isNn, isNi, isNb, isNt, isNl, isiD, at_l, at_t, fn_lenL, fn_lenT, fn_max2, fn_abs, fn_int, fn_intb, intV, seq_l, seq_t, lstV, fApp, fAugD, fAugI, olS, odS, odH, inS, getElem_s, F2, l0, h5]
  · rw [evI]; unfold fSeq
    generalize L.map rd = xs
    simp [evB, evS, evE, evL, evO, evOs, evEs, evT, evTs, evI, evC, evP, evDd, evPs, evWs, evG, evGs, fSeq2, aft, fNext, fRet, fIf, fAsg, fAsgL, fAsgT, fAsgD, fPar, fWv, fWl, fW0, setWs, wiS, fLit, fVar, Pf.slotAt, varS, fBin, fNeg, negD, fCmp, fChain, fAnd, fOr, fNot, fBool, boolS, fTest, fIte, fAt, fAtD, fCut, fPart, fNoPart, fOs, fOs0, fFn, fVs, fVs0, fTup, fFresh, fDisp, fTupOf, fListOf, fIsi, fCall, fCallW, fVal, fSlotC, isSet, Pf.rs, Pf.rsS, Pf.rsV, rsAll, rsD, keyD, datS, datsS, setS_s, setS_dv, setS_ol, setS_dat, setS_none, setS_olst, setS_rlst, setS_fdic, setS_odic, gN, gT, gs0, gsC, lenIs, binD, add_ii, subD, mulD, fdivD, modD, cmpD, ordD, isD, isNn, isNi, isNb, isNt, isNl, isiD, at_l, at_t, fn_lenL, fn_lenT, fn_max2, fn_abs, fn_int, fn_intb, intV, seq_l, seq_t, lstV, fApp, fAugD, fAugI, olS, odS, odH, inS, getElem_s, F2]
  · generalize L.map rd = xs
    generalize (L.flatMap (ext tp)).map rd = ys
    simp [evB, evS, evE, evL, evO, evOs, evEs, evT, evTs, evI, evC, evP, evDd, evPs, evWs, evG, evGs, fSeq2, aft, fNext, fRet, fIf, fAsg, fAsgL, fAsgT, fAsgD, fPar, fWv, fWl, fW0, setWs, wiS, fLit, fVar, Pf.slotAt, varS, fBin, fNeg, negD, fCmp, fChain, fAnd, fOr, fNot, fBool, boolS, fTest, fIte, fAt, fAtD, fCut, fPart, fNoPart, fOs, fOs0, fFn, fVs, fVs0, fTup, fFresh, fDisp, fTupOf, fListOf, fIsi, fCall, fCallW, fVal, fSlotC, isSet, Pf.rs, Pf.rsS, Pf.rsV, rsAll, rsD, keyD, datS, datsS, setS_s, setS_dv, setS_ol, setS_dat, setS_none, setS_olst, setS_rlst, setS_fdic, setS_odic, gN, gT, gs0, gsC, lenIs, binD, add_ii, subD, mulD, fdivD, modD, cmpD, ordD, isD, isNn, isNi, isNb, isNt, isNl, isiD, at_l, at_t, fn_lenL, fn_lenT, fn_max2, fn_abs, fn_int, fn_intb, intV, seq_l, seq_t, lstV, fApp, fAugD, fAugI, olS, odS, odH, inS, getElem_s, F2]
theorem ibr_rd {tp : Top} {p : Nat} {r : Row} (hl : r.length = p) (hi : InR tp r) : ibr tp p (rd r) = valid tp r := by
  show (decide ((r.map od).length = p) && ((r.map od).all (okE tp.length) && valid tp ((r.map od).map dn))) = _
  have e1 : (r.map od).map dn = r := by
    rw [List.map_map]
    refine (List.map_congr_left fun o ho => ?_).trans (List.map_id _)
    cases o <;> rfl
  have e2 : (r.map od).all (okE tp.length) = true := List.all_eq_true.mpr fun d hd => by
    obtain ⟨o, ho, rfl⟩ := List.mem_map.mp hd
    cases o with
    | none => rfl
    | some t =>
      have := hi _ ho t rfl
      show (decide (0 ≤ (t : Int)) && decide ((t : Int) < (tp.length : Int))) = true
      rw [decide_eq_true (by omega), decide_eq_true (by omega)]
      rfl
  rw [List.length_map, decide_eq_true hl, e1, e2]
  rfl
theorem Bt_rd {r : Row} (h : r.length ≤ 10) : Bt (rd r) := .inr (.inr ⟨r.map od, rfl, by rw [List.length_map]; exact h, fun x hx => by
  obtain ⟨o, _, rfl⟩ := List.mem_map.mp hx
  cases o with
  | none => exact .inl rfl
  | some t => exact .inr (.inl ⟨_, rfl⟩)⟩)
theorem lfirst_lv {lvm : Nat} (hm0 : 8 ≤ lvm) {tp : Top} (ht : tp.length ≤ 3) {p : Nat} (hp : p ≤ 6) : ((Y lvm).f 21).2 [.dat (td tp), .dat (.int (p : Int))] = some (ro (fstR tp p), [.dat (td tp), .dat (.int (p : Int))]) := by
  obtain ⟨m, rfl⟩ : ∃ m, lvm = m + 1 := ⟨lvm - 1, by omega⟩
  have l0 : (0 : Nat) ≤ lim := by decide
  have l1 : (1 : Nat) ≤ lim := by decide
  obtain ⟨en', a1, o3, x5, o6, o7, o8, o9, o10, f3, f5, f6, f7, f8, f9, f10, rfl⟩ := loop_inv (bd := evG (.name 3)) (body := evB (Y m) b__law_first_1) (P := fun i en => ∃ o3 o5 o6 o7 o8 o9 o10, Fr o3 ∧ Fr o5 ∧ Fr o6 ∧ Fr o7 ∧ Fr o8 ∧ Fr o9 ∧ Fr o10 ∧ en = F2 tp p (some (.dat (.list ((levs tp i).map rd)))) o3 none o5 o6 o7 o8 o9 o10) (rngD 0 p) 0 (F2 tp p (some (.dat (.list ((levs tp 0).map rd)))) none none none none none none none none) ⟨none, none, none, none, none, none, none, Fr_none, Fr_none, Fr_none, Fr_none, Fr_none, Fr_none, Fr_none, rfl⟩ fun j d en hd hP => by
    obtain ⟨o3, o5, o6, o7, o8, o9, o10, h3, h5, h6, h7, h8, h9, h10, rfl⟩ := hP
    obtain ⟨hj, rfl⟩ := rngD_at hd
    rw [Nat.zero_add]
    obtain ⟨o6', o7', o8', o9', o10', f6, f7, f8, f9, f10, e⟩ := lf1 (m := m) (by omega) ht (p := p) (i := j) (by omega) (o3 := some (.dat (.int (0 + (j : Int))))) (o4 := none) h5 h6 h7 h8 h9 h10
    refine ⟨F2 tp p (some (.dat (.list ((levs tp j).map rd)))) (some (.dat (.int (0 + (j : Int))))) none o5 o6 o7 o8 o9 o10, _, ?_, e, _, _, o6', o7', o8', o9', o10', Fr_dat _, Fr_dat _, f6, f7, f8, f9, f10, rfl⟩
    unfold Fr at h3
    show setS 3 (.dat (.int (0 + (j : Int)))) _ = _
    simp [F2, setS_s, h3]
  rw [rngD_len, Nat.zero_add] at a1
  have hbig := levs_big ht (i := p) hp
  have hin := fun r hr => levs_in tp p r hr
  have hfst : fstR tp p = (levs tp p).find? (valid tp) := rfl
  rw [hfst, ← List.head?_filter]
  generalize levs tp p = L at *
  have hcomp := comp_map (vs := [6]) (bd := evG (.name 6)) (cond := evC (Y m) c__law_first_3c) (elt := evE (Y m) c__law_first_3e) (f := rd) (g := rd) (p := valid tp) (en := F2 tp p (some (.dat (.list (L.map rd)))) o3 none x5 none o7 o8 o9 o10) L fun r hr => by
    obtain ⟨e1, e2⟩ := hin r hr
    have c1 := lis_row_lv (lvm := m) (by omega) ht (p := p) (by omega) (Bt_rd (r := r) (by omega))
    rw [ibr_rd e1 e2] at c1
    refine ⟨F2 tp p (some (.dat (.list (L.map rd)))) o3 none x5 (some (.dat (rd r))) o7 o8 o9 o10, F2 tp p (some (.dat (.list (L.map rd)))) o3 none x5 (some (.dat (rd r))) o7 o8 o9 o10, rfl, ?_, ?_⟩
    · generalize valid tp r = b at *
      generalize rd r = R at *
      generalize L.map rd = xs at *
      simp [c__law_first_3c, evB, evS, evE, evL, evO, evOs, evEs, evT, evTs, evI, evC, evP, evDd, evPs, evWs, evG, evGs, fSeq2, aft, fNext, fRet, fIf, fAsg, fAsgL, fAsgT, fAsgD, fPar, fWv, fWl, fW0, setWs, wiS, fLit, fVar, Pf.slotAt, varS, fBin, fNeg, negD, fCmp, fChain, fAnd, fOr, fNot, fBool, boolS, fTest, fIte, fAt, fAtD, fCut, fPart, fNoPart, fOs, fOs0, fFn, fVs, fVs0, fTup, fFresh, fDisp, fTupOf, fListOf, fIsi, fCall, fCallW, fVal, fSlotC, isSet, Pf.rs, Pf.rsS, Pf.rsV, rsAll, rsD, keyD, datS, datsS, setS_s, setS_dv, setS_ol, setS_dat, setS_none, setS_olst, setS_rlst, setS_fdic, setS_odic, gN, gT, gs0, gsC, lenIs, binD, add_ii, subD, mulD, fdivD, modD, cmpD, ordD, isD, isNn, isNi, isNb, isNt, isNl, isiD, at_l, at_t, fn_lenL, fn_lenT, fn_max2, fn_abs, fn_int, fn_intb, intV, seq_l, seq_t, lstV, fApp, fAugD, fAugI, olS, odS, odH, inS, getElem_s, F2, np__law_is_row, c1]
    · split
      · exact ⟨F2 tp p (some (.dat (.list (L.map rd)))) o3 none x5 (some (.dat (rd r))) o7 o8 o9 o10, by generalize L.map rd = xs; simp [c__law_first_3e, evB, evS, evE, evL, evO, evOs, evEs, evT, evTs, evI, evC, evP, evDd, evPs, evWs, evG, evGs, fSeq2, aft, fNext, fRet, fIf, fAsg, fAsgL, fAsgT, fAsgD, fPar, fWv, fWl, fW0, setWs, wiS, fLit, fVar, Pf.slotAt, varS, fBin, fNeg, negD, fCmp, fChain, fAnd, fOr, fNot, fBool, boolS, fTest, fIte, fAt, fAtD, fCut, fPart, fNoPart, fOs, fOs0, fFn, fVs, fVs0, fTup, fFresh, fDisp, fTupOf, fListOf, fIsi, fCall, fCallW, fVal, fSlotC, isSet, Pf.rs, Pf.rsS, Pf.rsV, rsAll, rsD, keyD, datS, datsS, setS_s, setS_dv, setS_ol, setS_dat, setS_none, setS_olst, setS_rlst, setS_fdic, setS_odic, gN, gT, gs0, gsC, lenIs, binD, add_ii, subD, mulD, fdivD, modD, cmpD, ordD, isD, isNn, isNi, isNb, isNt, isNl, isiD, at_l, at_t, fn_lenL, fn_lenT, fn_max2, fn_abs, fn_int, fn_intb, intV, seq_l, seq_t, lstV, fApp, fAugD, fAugI, olS, odS, odH, inS, getElem_s, F2], rfl⟩
      · rfl
  have hc : evL (Y m) c__law_first_3 (F2 tp p (some (.dat (.list (L.map rd)))) o3 none x5 o6 o7 o8 o9 o10) = some ((L.filter (valid tp)).map rd, F2 tp p (some (.dat (.list (L.map rd)))) o3 none x5 o6 o7 o8 o9 o10) := by
    unfold c__law_first_3
    refine (comp_ev (ds := L.map rd) (en1 := F2 tp p (some (.dat (.list (L.map rd)))) o3 none x5 o6 o7 o8 o9 o10) (en2 := F2 tp p (some (.dat (.list (L.map rd)))) o3 none x5 none o7 o8 o9 o10) (r := (L.filter (valid tp)).map rd) ?_ ?_ ?_).trans rfl
    · unfold c__law_first_3i
      rw [evI]; unfold fSeq
      generalize L.map rd = xs
      simp [evB, evS, evE, evL, evO, evOs, evEs, evT, evTs, evI, evC, evP, evDd, evPs, evWs, evG, evGs, fSeq2, aft, fNext, fRet, fIf, fAsg, fAsgL, fAsgT, fAsgD, fPar, fWv, fWl, fW0, setWs, wiS, fLit, fVar, Pf.slotAt, varS, fBin, fNeg, negD, fCmp, fChain, fAnd, fOr, fNot, fBool, boolS, fTest, fIte, fAt, fAtD, fCut, fPart, fNoPart, fOs, fOs0, fFn, fVs, fVs0, fTup, fFresh, fDisp, fTupOf, fListOf, fIsi, fCall, fCallW, fVal, fSlotC, isSet, Pf.rs, Pf.rsS, Pf.rsV, rsAll, rsD, keyD, datS, datsS, setS_s, setS_dv, setS_ol, setS_dat, setS_none, setS_olst, setS_rlst, setS_fdic, setS_odic, gN, gT, gs0, gsC, lenIs, binD, add_ii, subD, mulD, fdivD, modD, cmpD, ordD, isD, isNn, isNi, isNb, isNt, isNl, isiD, at_l, at_t, fn_lenL, fn_lenT, fn_max2, fn_abs, fn_int, fn_intb, intV, seq_l, seq_t, lstV, fApp, fAugD, fAugI, olS, odS, odH, inS, getElem_s, F2]
    · rw [List.length_map]; unfold lim; omega
    · exact hcomp
  rw [f__law_first]
  refine fb_ret (en' := F2 tp p (some (.dat (.list (L.map rd)))) o3 (some (.olst ((L.filter (valid tp)).map rd))) x5 o6 o7 o8 o9 o10) rfl (B_next (en1 := F2 tp p (some (.dat (.list ((levs tp 0).map rd)))) none none none none none none none none) ?_ (B_next (for_next (ds := rngD 0 p) (en1 := F2 tp p (some (.dat (.list ((levs tp 0).map rd)))) none none none none none none none none) ?_ a1) (B_next (en1 := F2 tp p (some (.dat (.list (L.map rd)))) o3 (some (.olst ((L.filter (valid tp)).map rd))) x5 o6 o7 o8 o9 o10) ?_ (B_ret ?_)))) rfl
  · have e : (levs tp 0).map rd = [.tuple []] := rfl
    rw [e]
    simp [evB, evS, evE, evL, evO, evOs, evEs, evT, evTs, evI, evC, evP, evDd, evPs, evWs, evG, evGs, fSeq2, aft, fNext, fRet, fIf, fAsg, fAsgL, fAsgT, fAsgD, fPar, fWv, fWl, fW0, setWs, wiS, fLit, fVar, Pf.slotAt, varS, fBin, fNeg, negD, fCmp, fChain, fAnd, fOr, fNot, fBool, boolS, fTest, fIte, fAt, fAtD, fCut, fPart, fNoPart, fOs, fOs0, fFn, fVs, fVs0, fTup, fFresh, fDisp, fTupOf, fListOf, fIsi, fCall, fCallW, fVal, fSlotC, isSet, Pf.rs, Pf.rsS, Pf.rsV, rsAll, rsD, keyD, datS, datsS, setS_s, setS_dv, setS_ol, setS_dat, setS_none, setS_olst, setS_rlst, setS_fdic, setS_odic, gN, gT, gs0, gsC, lenIs, binD, add_ii, subD, mulD, fdivD, modD, cmpD, ordD, isD, isNn, isNi, isNb, isNt, isNl, isiD, at_l, at_t, fn_lenL, fn_lenT, fn_max2, fn_abs, fn_int, fn_intb, intV, seq_l, seq_t, lstV, fApp, fAugD, fAugI, olS, odS, odH, inS, getElem_s, F2, List.replicate, l0, l1]
  · exact rng1_ev (os := [.slot 1]) (m := (p : Int)) (by simp [evB, evS, evE, evL, evO, evOs, evEs, evT, evTs, evI, evC, evP, evDd, evPs, evWs, evG, evGs, fSeq2, aft, fNext, fRet, fIf, fAsg, fAsgL, fAsgT, fAsgD, fPar, fWv, fWl, fW0, setWs, wiS, fLit, fVar, Pf.slotAt, varS, fBin, fNeg, negD, fCmp, fChain, fAnd, fOr, fNot, fBool, boolS, fTest, fIte, fAt, fAtD, fCut, fPart, fNoPart, fOs, fOs0, fFn, fVs, fVs0, fTup, fFresh, fDisp, fTupOf, fListOf, fIsi, fCall, fCallW, fVal, fSlotC, isSet, Pf.rs, Pf.rsS, Pf.rsV, rsAll, rsD, keyD, datS, datsS, setS_s, setS_dv, setS_ol, setS_dat, setS_none, setS_olst, setS_rlst, setS_fdic, setS_odic, gN, gT, gs0, gsC, lenIs, binD, add_ii, subD, mulD, fdivD, modD, cmpD, ordD, isD, isNn, isNi, isNb, isNt, isNl, isiD, at_l, at_t, fn_lenL, fn_lenT, fn_max2, fn_abs, fn_int, fn_intb, intV, seq_l, seq_t, lstV, fApp, fAugD, fAugI, olS, odS, odH, inS, getElem_s, F2]) (by simp [evB, evS, evE, evL, evO, evOs, evEs, evT, evTs, evI, evC, evP, evDd, evPs, evWs, evG, evGs, fSeq2, aft, fNext, fRet, fIf, fAsg, fAsgL, fAsgT, fAsgD, fPar, fWv, fWl, fW0, setWs, wiS, fLit, fVar, Pf.slotAt, varS, fBin, fNeg, negD, fCmp, fChain, fAnd, fOr, fNot, fBool, boolS, fTest, fIte, fAt, fAtD, fCut, fPart, fNoPart, fOs, fOs0, fFn, fVs, fVs0, fTup, fFresh, fDisp, fTupOf, fListOf, fIsi, fCall, fCallW, fVal, fSlotC, isSet, Pf.rs, Pf.rsS, Pf.rsV, rsAll, rsD, keyD, datS, datsS, setS_s, setS_dv, setS_ol, setS_dat, setS_none, setS_olst, setS_rlst, setS_fdic, setS_odic, gN, gT, gs0, gsC, lenIs, binD, add_ii, subD, mulD, fdivD, modD, cmpD, ordD, isD, isNn, isNi, isNb, isNt, isNl, isiD, at_l, at_t, fn_lenL, fn_lenT, fn_max2, fn_abs, fn_int, fn_intb, intV, seq_l, seq_t, lstV, fApp, fAugD, fAugI, olS, odS, odH, inS, getElem_s, F2]) rfl (by omega)
  · rw [evS]; unfold fAsgL
    rw [hc, Option.bind_some]
    rfl
  · have hsh : ∀ d ∈ (L.filter (valid tp)).map rd, shD 1 d := fun d hd => by
      obtain ⟨r, _, rfl⟩ := List.mem_map.mp hd
      exact shD_tuple fun x hx => by
        obtain ⟨o, _, rfl⟩ := List.mem_map.mp hx
        exact shD_od 0 o
    generalize L.map rd = ys at *
    cases hz : L.filter (valid tp) with
    | nil => simp [evB, evS, evE, evL, evO, evOs, evEs, evT, evTs, evI, evC, evP, evDd, evPs, evWs, evG, evGs, fSeq2, aft, fNext, fRet, fIf, fAsg, fAsgL, fAsgT, fAsgD, fPar, fWv, fWl, fW0, setWs, wiS, fLit, fVar, Pf.slotAt, varS, fBin, fNeg, negD, fCmp, fChain, fAnd, fOr, fNot, fBool, boolS, fTest, fIte, fAt, fAtD, fCut, fPart, fNoPart, fOs, fOs0, fFn, fVs, fVs0, fTup, fFresh, fDisp, fTupOf, fListOf, fIsi, fCall, fCallW, fVal, fSlotC, isSet, Pf.rs, Pf.rsS, Pf.rsV, rsAll, rsD, keyD, datS, datsS, setS_s, setS_dv, setS_ol, setS_dat, setS_none, setS_olst, setS_rlst, setS_fdic, setS_odic, gN, gT, gs0, gsC, lenIs, binD, add_ii, subD, mulD, fdivD, modD, cmpD, ordD, isD, isNn, isNi, isNb, isNt, isNl, isiD, at_l, at_t, fn_lenL, fn_lenT, fn_max2, fn_abs, fn_int, fn_intb, intV, seq_l, seq_t, lstV, fApp, fAugD, fAugI, olS, odS, odH, inS, getElem_s, F2, l0, eqD_nil, ro]
    | cons r rs =>
      rw [hz, List.map_cons] at hsh
      have hne := eqD_ne_nil hsh (by decide)
      rw [List.map_cons]
      generalize rs.map rd = zs at *
      simp [evB, evS, evE, evL, evO, evOs, evEs, evT, evTs, evI, evC, evP, evDd, evPs, evWs, evG, evGs, fSeq2, aft, fNext, fRet, fIf, fAsg, fAsgL, fAsgT, fAsgD, fPar, fWv, fWl, fW0, setWs, wiS, fLit, fVar, Pf.slotAt, varS, fBin, fNeg, negD, fCmp, fChain, fAnd, fOr, fNot, fBool, boolS, fTest, fIte, fAt, fAtD, fCut, fPart, fNoPart, fOs, fOs0, fFn, fVs, fVs0, fTup, fFresh, fDisp, fTupOf, fListOf, fIsi, fCall, fCallW, fVal, fSlotC, isSet, Pf.rs, Pf.rsS, Pf.rsV, rsAll, rsD, keyD, datS, datsS, setS_s, setS_dv, setS_ol, setS_dat, setS_none, setS_olst, setS_rlst, setS_fdic, setS_odic, gN, gT, gs0, gsC, lenIs, binD, add_ii, subD, mulD, fdivD, modD, cmpD, ordD, isD, isNn, isNi, isNb, isNt, isNl, isiD, at_l, at_t, fn_lenL, fn_lenT, fn_max2, fn_abs, fn_int, fn_intb, intV, seq_l, seq_t, lstV, fApp, fAugD, fAugI, olS, odS, odH, inS, getElem_s, F2, l0, hne, at0, ro]


end K31

set_option maxHeartbeats 4000000
namespace K31
open PySem L2 Pf
theorem pickw {m : Nat} (hm : 4 ≤ m) (ns : List Int) {k : Int} (hk : 0 ≤ k) {ds : List D} (hd : ds ≠ []) : ∃ d, d ∈ ds ∧ ((Y m).f 13).2 [.odic true (W ns k), .dat (.list ds)] = some (d, [.odic true (W ns (k + 1)), .dat (.list ds)]) := pick_lv (lvm := m) (by omega) ns hk hd
theorem bent_e {lvm : Nat} (hm0 : 5 ≤ lvm) (ns : List Int) {k : Int} (hk : 0 ≤ k) (o : Option Nat) : ∃ d k', Ent d ∧ 0 ≤ k' ∧ ((Y lvm).f 16).2 [.odic true (W ns k), .dat (od o)] = some (d, [.odic true (W ns k'), .dat (od o)]) := by
  obtain ⟨m, rfl⟩ : ∃ m, lvm = m + 1 := ⟨lvm - 1, by omega⟩
  rw [f__law_bent]
  cases o with
  | none =>
    refine ⟨.int 0, k, .inr (.inl ⟨0, rfl⟩), hk, ?_⟩
    refine fb_ret' (en' := [some (.odic true (W ns k)), some (.dat .none), none]) rfl (B_next (en1 := [some (.odic true (W ns k)), some (.dat .none), none]) ?_ (B_next (en1 := [some (.odic true (W ns k)), some (.dat .none), none]) ?_ (B_next (en1 := [some (.odic true (W ns k)), some (.dat .none), none]) ?_ (B_ret ?_)))) rfl
    · simp [evB, evS, evE, evL, evO, evOs, evEs, evT, evTs, evI, evC, evP, evDd, evPs, evWs, evG, evGs, fSeq2, aft, fNext, fRet, fIf, fAsg, fAsgL, fAsgT, fAsgD, fPar, fWv, fWl, fW0, setWs, wiS, fLit, fVar, Pf.slotAt, varS, fBin, fNeg, negD, fCmp, fChain, fAnd, fOr, fNot, fBool, boolS, fTest, fIte, fAt, fAtD, fCut, fPart, fNoPart, fOs, fOs0, fFn, fVs, fVs0, fTup, fFresh, fDisp, fTupOf, fListOf, fIsi, fCall, fCallW, fVal, fSlotC, isSet, Pf.rs, Pf.rsS, Pf.rsV, rsAll, rsD, keyD, datS, datsS, setS_s, setS_dv, setS_ol, setS_dat, setS_none, setS_olst, setS_rlst, setS_fdic, setS_odic, gN, gT, gs0, gsC, lenIs, binD, add_ii, subD, mulD, fdivD, modD, cmpD, ordD, isD, isNn, isNi, isNb, isNt, isNl, isiD, at_l, at_t, fn_lenL, fn_lenT, fn_max2, fn_abs, fn_int, fn_intb, intV, seq_l, seq_t, lstV, fApp, fAugD, fAugI, olS, odS, odH, inS, getElem_s, List.replicate, od]
    · simp [evB, evS, evE, evL, evO, evOs, evEs, evT, evTs, evI, evC, evP, evDd, evPs, evWs, evG, evGs, fSeq2, aft, fNext, fRet, fIf, fAsg, fAsgL, fAsgT, fAsgD, fPar, fWv, fWl, fW0, setWs, wiS, fLit, fVar, Pf.slotAt, varS, fBin, fNeg, negD, fCmp, fChain, fAnd, fOr, fNot, fBool, boolS, fTest, fIte, fAt, fAtD, fCut, fPart, fNoPart, fOs, fOs0, fFn, fVs, fVs0, fTup, fFresh, fDisp, fTupOf, fListOf, fIsi, fCall, fCallW, fVal, fSlotC, isSet, Pf.rs, Pf.rsS, Pf.rsV, rsAll, rsD, keyD, datS, datsS, setS_s, setS_dv, setS_ol, setS_dat, setS_none, setS_olst, setS_rlst, setS_fdic, setS_odic, gN, gT, gs0, gsC, lenIs, binD, add_ii, subD, mulD, fdivD, modD, cmpD, ordD, isD, isNn, isNi, isNb, isNt, isNl, isiD, at_l, at_t, fn_lenL, fn_lenT, fn_max2, fn_abs, fn_int, fn_intb, intV, seq_l, seq_t, lstV, fApp, fAugD, fAugI, olS, odS, odH, inS, getElem_s]
    · simp [evB, evS, evE, evL, evO, evOs, evEs, evT, evTs, evI, evC, evP, evDd, evPs, evWs, evG, evGs, fSeq2, aft, fNext, fRet, fIf, fAsg, fAsgL, fAsgT, fAsgD, fPar, fWv, fWl, fW0, setWs, wiS, fLit, fVar, Pf.slotAt, varS, fBin, fNeg, negD, fCmp, fChain, fAnd, fOr, fNot, fBool, boolS, fTest, fIte, fAt, fAtD, fCut, fPart, fNoPart, fOs, fOs0, fFn, fVs, fVs0, fTup, fFresh, fDisp, fTupOf, fListOf, fIsi, fCall, fCallW, fVal, fSlotC, isSet, Pf.rs, Pf.rsS, Pf.rsV, rsAll, rsD, keyD, datS, datsS, setS_s, setS_dv, setS_ol, setS_dat, setS_none, setS_olst, setS_rlst, setS_fdic, setS_odic, gN, gT, gs0, gsC, lenIs, binD, add_ii, subD, mulD, fdivD, modD, cmpD, ordD, isD, isNn, isNi, isNb, isNt, isNl, isiD, at_l, at_t, fn_lenL, fn_lenT, fn_max2, fn_abs, fn_int, fn_intb, intV, seq_l, seq_t, lstV, fApp, fAugD, fAugI, olS, odS, odH, inS, getElem_s]
    · simp [evB, evS, evE, evL, evO, evOs, evEs, evT, evTs, evI, evC, evP, evDd, evPs, evWs, evG, evGs, fSeq2, aft, fNext, fRet, fIf, fAsg, fAsgL, fAsgT, fAsgD, fPar, fWv, fWl, fW0, setWs, wiS, fLit, fVar, Pf.slotAt, varS, fBin, fNeg, negD, fCmp, fChain, fAnd, fOr, fNot, fBool, boolS, fTest, fIte, fAt, fAtD, fCut, fPart, fNoPart, fOs, fOs0, fFn, fVs, fVs0, fTup, fFresh, fDisp, fTupOf, fListOf, fIsi, fCall, fCallW, fVal, fSlotC, isSet, Pf.rs, Pf.rsS, Pf.rsV, rsAll, rsD, keyD, datS, datsS, setS_s, setS_dv, setS_ol, setS_dat, setS_none, setS_olst, setS_rlst, setS_fdic, setS_odic, gN, gT, gs0, gsC, lenIs, binD, add_ii, subD, mulD, fdivD, modD, cmpD, ordD, isD, isNn, isNi, isNb, isNt, isNl, isiD, at_l, at_t, fn_lenL, fn_lenT, fn_max2, fn_abs, fn_int, fn_intb, intV, seq_l, seq_t, lstV, fApp, fAugD, fAugI, olS, odS, odH, inS, getElem_s]
  | some a =>
    have l7 : (7 : Nat) ≤ lim := by decide
    obtain ⟨d, hd, hp⟩ := pickw (m := m) (by omega) ns hk (ds := [.int ((a : Int) + 1), .int ((a : Int) - 1), .int 0, .int 1, .bool true, .int ((a : Int) + 7), .none]) (by simp)
    refine ⟨d, k + 1, ?_, by omega, ?_⟩
    · simp only [List.mem_cons, List.not_mem_nil, or_false] at hd
      rcases hd with rfl | rfl | rfl | rfl | rfl | rfl | rfl
      · exact .inr (.inl ⟨_, rfl⟩)
      · exact .inr (.inl ⟨_, rfl⟩)
      · exact .inr (.inl ⟨_, rfl⟩)
      · exact .inr (.inl ⟨_, rfl⟩)
      · exact .inr (.inr ⟨_, rfl⟩)
      · exact .inr (.inl ⟨_, rfl⟩)
      · exact .inl rfl
    · refine fb_ret' (en' := [some (.odic true (W ns (k + 1))), some (.dat (.int (a : Int))), none]) rfl (B_next (en1 := [some (.odic true (W ns k)), some (.dat (.int (a : Int))), none]) ?_ (B_next (en1 := [some (.odic true (W ns k)), some (.dat (.int (a : Int))), none]) ?_ (B_next (en1 := [some (.odic true (W ns k)), some (.dat (.int (a : Int))), none]) ?_ (B_ret ?_)))) rfl
      · simp [evB, evS, evE, evL, evO, evOs, evEs, evT, evTs, evI, evC, evP, evDd, evPs, evWs, evG, evGs, fSeq2, aft, fNext, fRet, fIf, fAsg, fAsgL, fAsgT, fAsgD, fPar, fWv, fWl, fW0, setWs, wiS, fLit, fVar, Pf.slotAt, varS, fBin, fNeg, negD, fCmp, fChain, fAnd, fOr, fNot, fBool, boolS, fTest, fIte, fAt, fAtD, fCut, fPart, fNoPart, fOs, fOs0, fFn, fVs, fVs0, fTup, fFresh, fDisp, fTupOf, fListOf, fIsi, fCall, fCallW, fVal, fSlotC, isSet, Pf.rs, Pf.rsS, Pf.rsV, rsAll, rsD, keyD, datS, datsS, setS_s, setS_dv, setS_ol, setS_dat, setS_none, setS_olst, setS_rlst, setS_fdic, setS_odic, gN, gT, gs0, gsC, lenIs, binD, add_ii, subD, mulD, fdivD, modD, cmpD, ordD, isD, isNn, isNi, isNb, isNt, isNl, isiD, at_l, at_t, fn_lenL, fn_lenT, fn_max2, fn_abs, fn_int, fn_intb, intV, seq_l, seq_t, lstV, fApp, fAugD, fAugI, olS, odS, odH, inS, getElem_s, List.replicate, od]
      · simp [evB, evS, evE, evL, evO, evOs, evEs, evT, evTs, evI, evC, evP, evDd, evPs, evWs, evG, evGs, fSeq2, aft, fNext, fRet, fIf, fAsg, fAsgL, fAsgT, fAsgD, fPar, fWv, fWl, fW0, setWs, wiS, fLit, fVar, Pf.slotAt, varS, fBin, fNeg, negD, fCmp, fChain, fAnd, fOr, fNot, fBool, boolS, fTest, fIte, fAt, fAtD, fCut, fPart, fNoPart, fOs, fOs0, fFn, fVs, fVs0, fTup, fFresh, fDisp, fTupOf, fListOf, fIsi, fCall, fCallW, fVal, fSlotC, isSet, Pf.rs, Pf.rsS, Pf.rsV, rsAll, rsD, keyD, datS, datsS, setS_s, setS_dv, setS_ol, setS_dat, setS_none, setS_olst, setS_rlst, setS_fdic, setS_odic, gN, gT, gs0, gsC, lenIs, binD, add_ii, subD, mulD, fdivD, modD, cmpD, ordD, isD, isNn, isNi, isNb, isNt, isNl, isiD, at_l, at_t, fn_lenL, fn_lenT, fn_max2, fn_abs, fn_int, fn_intb, intV, seq_l, seq_t, lstV, fApp, fAugD, fAugI, olS, odS, odH, inS, getElem_s]
      · simp [evB, evS, evE, evL, evO, evOs, evEs, evT, evTs, evI, evC, evP, evDd, evPs, evWs, evG, evGs, fSeq2, aft, fNext, fRet, fIf, fAsg, fAsgL, fAsgT, fAsgD, fPar, fWv, fWl, fW0, setWs, wiS, fLit, fVar, Pf.slotAt, varS, fBin, fNeg, negD, fCmp, fChain, fAnd, fOr, fNot, fBool, boolS, fTest, fIte, fAt, fAtD, fCut, fPart, fNoPart, fOs, fOs0, fFn, fVs, fVs0, fTup, fFresh, fDisp, fTupOf, fListOf, fIsi, fCall, fCallW, fVal, fSlotC, isSet, Pf.rs, Pf.rsS, Pf.rsV, rsAll, rsD, keyD, datS, datsS, setS_s, setS_dv, setS_ol, setS_dat, setS_none, setS_olst, setS_rlst, setS_fdic, setS_odic, gN, gT, gs0, gsC, lenIs, binD, add_ii, subD, mulD, fdivD, modD, cmpD, ordD, isD, isNn, isNi, isNb, isNt, isNl, isiD, at_l, at_t, fn_lenL, fn_lenT, fn_max2, fn_abs, fn_int, fn_intb, intV, seq_l, seq_t, lstV, fApp, fAugD, fAugI, olS, odS, odH, inS, getElem_s]
      · simp [evB, evS, evE, evL, evO, evOs, evEs, evT, evTs, evI, evC, evP, evDd, evPs, evWs, evG, evGs, fSeq2, aft, fNext, fRet, fIf, fAsg, fAsgL, fAsgT, fAsgD, fPar, fWv, fWl, fW0, setWs, wiS, fLit, fVar, Pf.slotAt, varS, fBin, fNeg, negD, fCmp, fChain, fAnd, fOr, fNot, fBool, boolS, fTest, fIte, fAt, fAtD, fCut, fPart, fNoPart, fOs, fOs0, fFn, fVs, fVs0, fTup, fFresh, fDisp, fTupOf, fListOf, fIsi, fCall, fCallW, fVal, fSlotC, isSet, Pf.rs, Pf.rsS, Pf.rsV, rsAll, rsD, keyD, datS, datsS, setS_s, setS_dv, setS_ol, setS_dat, setS_none, setS_olst, setS_rlst, setS_fdic, setS_odic, gN, gT, gs0, gsC, lenIs, binD, add_ii, subD, mulD, fdivD, modD, cmpD, ordD, isD, isNn, isNi, isNb, isNt, isNl, isiD, at_l, at_t, fn_lenL, fn_lenT, fn_max2, fn_abs, fn_int, fn_intb, intV, seq_l, seq_t, lstV, fApp, fAugD, fAugI, olS, odS, odH, inS, getElem_s, l7, np__law_pick, hp]
theorem cutL_mem {α : Type} {xs : List α} {lo hi : Option Int} {x : α} (h : x ∈ cutL xs lo hi) : x ∈ xs := by
  unfold cutL at h
  exact List.mem_of_mem_drop (List.mem_of_mem_take h)
theorem cutL_len {α : Type} (xs : List α) (lo hi : Option Int) : (cutL xs lo hi).length ≤ xs.length := by
  unfold cutL
  rw [List.length_take, List.length_drop]
  omega
theorem add_tt {xs ys : List D} (h : xs.length + ys.length ≤ 50) : addD (.tuple xs) (.tuple ys) = some (.tuple (xs ++ ys)) := by
  show (if _ then some (PyData.tuple _) else none) = _
  rw [if_pos (by unfold lim; omega)]
theorem Ent_od (o : Option Nat) : Ent (od o) := by
  cases o with
  | none => exact .inl rfl
  | some t => exact .inr (.inl ⟨_, rfl⟩)
theorem bent_t {lvm : Nat} (hm0 : 6 ≤ lvm) (ns : List Int) {k : Int} (hk : 0 ≤ k) {r : Row} (hr : r.length ≤ 5) : ∃ d k', Bt d ∧ 0 ≤ k' ∧ ((Y lvm).f 16).2 [.odic true (W ns k), .dat (rd r)] = some (d, [.odic true (W ns k'), .dat (rd r)]) := by
  obtain ⟨m, rfl⟩ : ∃ m, lvm = m + 1 := ⟨lvm - 1, by omega⟩
  rw [f__law_bent]
  have l0 : (0 : Nat) ≤ lim := by decide
  have l1 : (1 : Nat) ≤ lim := by decide
  have l6 : (6 : Nat) ≤ lim := by decide
  obtain ⟨zs, hzs⟩ : ∃ zs, zs = r.map od := ⟨_, rfl⟩
  have hzl : zs.length = r.length := by rw [hzs, List.length_map]
  have hze : ∀ x ∈ zs, Ent x := fun x hx => by
    rw [hzs] at hx
    obtain ⟨o, _, rfl⟩ := List.mem_map.mp hx
    exact Ent_od o
  have hR : rd r = .tuple zs := by rw [hzs]; rfl
  rw [hR]
  -- the second way, from any draw
  have sec : ∀ k, 0 ≤ k → ∃ d k' o2, Bt d ∧ 0 ≤ k' ∧ evS (Y m) (.ife (.val (.isi .tuple (.slot 1))) (.cons (.asg 2 (.callW "_law_next" 12 0 (.cons (.bin .add (.val (.fn .len (.cons (.slot 1) .nil))) (.val (.lit (.int 1)))) .nil))) (.cons (.ret (.callW "_law_pick" 13 0 (.cons (.fresh (.disp (.cons (.bin .add (.val (.cut (.slot 1) .no (.yes (.slot 2)))) (.val (.cut (.slot 1) (.yes (.val (.bin .add (.slot 2) (.val (.lit (.int 1)))))) .no))) (.cons (.bin .add (.slot 1) (.val (.cut (.slot 1) (.yes (.val (.neg (.val (.lit (.int 1)))))) .no))) (.cons (.rev (.var 1)) (.cons (.lit .none) (.cons (.tup .nil) (.cons (.fresh (.of (.slot 1))) .nil)))))))) .nil))) .nil)) .nil) [some (.odic true (W ns k)), some (.dat (.tuple zs)), none] = some (.ret d, [some (.odic true (W ns k')), some (.dat (.tuple zs)), o2]) := fun k hk => by
    obtain ⟨j, j0, j1, hn⟩ := next_lv (lvm := m) (by omega) ns hk (many := (zs.length : Int) + 1) (by omega)
    have c1 : cutD (.tuple zs) none (some j) = some (.tuple (cutL zs none (some j))) := rfl
    have c2 : cutD (.tuple zs) (some (j + 1)) none = some (.tuple (cutL zs (some (j + 1)) none)) := rfl
    have c3 : cutD (.tuple zs) (some (-1)) none = some (.tuple (cutL zs (some (-1)) none)) := rfl
    have n1 := cutL_len zs none (some j)
    have n2 := cutL_len zs (some (j + 1)) none
    have n3 := cutL_len zs (some (-1)) none
    have a1 := add_tt (xs := cutL zs none (some j)) (ys := cutL zs (some (j + 1)) none) (by omega)
    have a2 := add_tt (xs := zs) (ys := cutL zs (some (-1)) none) (by omega)
    have hrev : revD (.tuple zs) = some (.tuple zs.reverse) := rfl
    obtain ⟨d, hd, hp⟩ := pickw (m := m) (by omega) ns (k := k + 1) (by omega) (ds := [.tuple (cutL zs none (some j) ++ cutL zs (some (j + 1)) none), .tuple (zs ++ cutL zs (some (-1)) none), .tuple zs.reverse, .none, .tuple [], .list zs]) (by simp)
    have hB : Bt d := by
      simp only [List.mem_cons, List.not_mem_nil, or_false] at hd
      rcases hd with rfl | rfl | rfl | rfl | rfl | rfl
      · refine .inr (.inr ⟨_, rfl, by rw [List.length_append]; omega, fun x hx => ?_⟩)
        rcases List.mem_append.mp hx with z | z
        · exact hze x (cutL_mem z)
        · exact hze x (cutL_mem z)
      · refine .inr (.inr ⟨_, rfl, by rw [List.length_append]; omega, fun x hx => ?_⟩)
        rcases List.mem_append.mp hx with z | z
        · exact hze x z
        · exact hze x (cutL_mem z)
      · exact .inr (.inr ⟨_, rfl, by rw [List.length_reverse]; omega, fun x hx => hze x (List.mem_reverse.mp hx)⟩)
      · exact .inl rfl
      · exact .inr (.inr ⟨_, rfl, by simp, fun x hx => by cases hx⟩)
      · exact .inr (.inl ⟨_, rfl⟩)
    refine ⟨d, k + 1 + 1, some (.dat (.int j)), hB, by omega, ?_⟩
    generalize cutL zs none (some j) = u1 at *
    generalize cutL zs (some (j + 1)) none = u2 at *
    generalize cutL zs (some (-1)) none = u3 at *
    generalize zs.reverse = u4 at *
    have hlz : fnD .len [.tuple zs] = some (.int (zs.length : Int)) := rfl
    simp [evB, evS, evE, evL, evO, evOs, evEs, evT, evTs, evI, evC, evP, evDd, evPs, evWs, evG, evGs, fSeq2, aft, fNext, fRet, fIf, fAsg, fAsgL, fAsgT, fAsgD, fPar, fWv, fWl, fW0, setWs, wiS, fLit, fVar, Pf.slotAt, varS, fBin, fNeg, negD, fCmp, fChain, fAnd, fOr, fNot, fBool, boolS, fTest, fIte, fAt, fAtD, fCut, fPart, fNoPart, fOs, fOs0, fFn, fVs, fVs0, fTup, fFresh, fDisp, fTupOf, fListOf, fIsi, fCall, fCallW, fVal, fSlotC, isSet, Pf.rs, Pf.rsS, Pf.rsV, rsAll, rsD, keyD, datS, datsS, setS_s, setS_dv, setS_ol, setS_dat, setS_none, setS_olst, setS_rlst, setS_fdic, setS_odic, gN, gT, gs0, gsC, lenIs, binD, add_ii, subD, mulD, fdivD, modD, cmpD, ordD, isD, isNn, isNi, isNb, isNt, isNl, isiD, at_l, at_t, fn_lenL, fn_lenT, fn_max2, fn_abs, fn_int, fn_intb, intV, seq_l, seq_t, lstV, fApp, fAugD, fAugI, olS, odS, odH, inS, getElem_s, np__law_next, hn, fRev, c1, c2, c3, a1, a2, hrev, l0, l6, np__law_pick, hp]
  cases r with
  | nil =>
    obtain rfl : zs = [] := by rw [hzs]; rfl
    obtain ⟨d, k', o2, hB, hk', e⟩ := sec k hk
    refine ⟨d, k', hB, hk', fb_ret' (en' := [some (.odic true (W ns k')), some (.dat (.tuple [])), o2]) rfl (B_next (en1 := [some (.odic true (W ns k)), some (.dat (.tuple [])), none]) ?_ (B_ret e)) rfl⟩
    have e0 : eqD (.tuple []) (.tuple []) = some true := rfl
    simp [evB, evS, evE, evL, evO, evOs, evEs, evT, evTs, evI, evC, evP, evDd, evPs, evWs, evG, evGs, fSeq2, aft, fNext, fRet, fIf, fAsg, fAsgL, fAsgT, fAsgD, fPar, fWv, fWl, fW0, setWs, wiS, fLit, fVar, Pf.slotAt, varS, fBin, fNeg, negD, fCmp, fChain, fAnd, fOr, fNot, fBool, boolS, fTest, fIte, fAt, fAtD, fCut, fPart, fNoPart, fOs, fOs0, fFn, fVs, fVs0, fTup, fFresh, fDisp, fTupOf, fListOf, fIsi, fCall, fCallW, fVal, fSlotC, isSet, Pf.rs, Pf.rsS, Pf.rsV, rsAll, rsD, keyD, datS, datsS, setS_s, setS_dv, setS_ol, setS_dat, setS_none, setS_olst, setS_rlst, setS_fdic, setS_odic, gN, gT, gs0, gsC, lenIs, binD, add_ii, subD, mulD, fdivD, modD, cmpD, ordD, isD, isNn, isNi, isNb, isNt, isNl, isiD, at_l, at_t, fn_lenL, fn_lenT, fn_max2, fn_abs, fn_int, fn_intb, intV, seq_l, seq_t, lstV, fApp, fAugD, fAugI, olS, odS, odH, inS, getElem_s, List.replicate, l0, e0]
  | cons x r' =>
    have hne : eqD (.tuple zs) (.tuple []) = some false := by
      rw [hzs, List.map_cons]
      show (if _ then _ else _) = _
      rw [if_pos ⟨(shD_tuple (n := 0) fun d hd => by
        have hd : d ∈ (x :: r').map od := hd
        obtain ⟨o, _, rfl⟩ := List.mem_map.mp hd
        exact shD_od 0 o).shp (by decide), rfl⟩]
      rfl
    obtain ⟨g, g0, g1, hg⟩ := next_lv (lvm := m) (by omega) ns hk (many := 4) (by decide)
    by_cases hgp : 0 < g
    · -- the first way
      obtain ⟨j, j0, j1, hn⟩ := next_lv (lvm := m) (by omega) ns (k := k + 1) (by omega) (many := (zs.length : Int)) (by rw [hzl, List.length_cons]; omega)
      obtain ⟨i, rfl⟩ : ∃ i : Nat, j = (i : Int) := ⟨j.toNat, by omega⟩
      have hi : i < (x :: r').length := by omega
      obtain ⟨d, k', hE, hk', hb⟩ := bent_e (lvm := m) (by omega) ns (k := k + 1 + 1) (by omega) ((x :: r')[i])
      have ai : atI zs (i : Int) = some (od ((x :: r')[i])) := by rw [hzs]; exact at_rd hi
      have c1 : cutD (.tuple zs) none (some (i : Int)) = some (.tuple (cutL zs none (some (i : Int)))) := rfl
      have c2 : cutD (.tuple zs) (some ((i : Int) + 1)) none = some (.tuple (cutL zs (some ((i : Int) + 1)) none)) := rfl
      have n1 := cutL_len zs none (some (i : Int))
      have n2 := cutL_len zs (some ((i : Int) + 1)) none
      have a1 := add_tt (xs := cutL zs none (some (i : Int))) (ys := [d]) (by rw [List.length_singleton]; omega)
      have a2 := add_tt (xs := cutL zs none (some (i : Int)) ++ [d]) (ys := cutL zs (some ((i : Int) + 1)) none) (by rw [List.length_append, List.length_singleton]; omega)
      have hB : Bt (.tuple (cutL zs none (some (i : Int)) ++ [d] ++ cutL zs (some ((i : Int) + 1)) none)) := by
        have n3 : (cutL zs none (some (i : Int))).length ≤ i := by
          rw [cut_take, List.length_take]; omega
        have n4 : (cutL zs (some ((i : Int) + 1)) none).length ≤ zs.length - (i + 1) := by
          rw [show (i : Int) + 1 = ((i + 1 : Nat) : Int) by omega, cut_drop, List.length_drop]; omega
        refine .inr (.inr ⟨_, rfl, by rw [List.length_append, List.length_append, List.length_singleton]; omega, fun y hy => ?_⟩)
        rcases List.mem_append.mp hy with z | z
        · rcases List.mem_append.mp z with z | z
          · exact hze y (cutL_mem z)
          · rw [List.mem_singleton.mp z]; exact hE
        · exact hze y (cutL_mem z)
      refine ⟨_, k', hB, hk', fb_ret' (en' := [some (.odic true (W ns k')), some (.dat (.tuple zs)), some (.dat (.int (i : Int)))]) rfl (B_ret ?_) rfl⟩
      generalize cutL zs none (some (i : Int)) = u1 at *
      generalize cutL zs (some ((i : Int) + 1)) none = u2 at *
      generalize od ((x :: r')[i]) = y at *
      simp [evB, evS, evE, evL, evO, evOs, evEs, evT, evTs, evI, evC, evP, evDd, evPs, evWs, evG, evGs, fSeq2, aft, fNext, fRet, fIf, fAsg, fAsgL, fAsgT, fAsgD, fPar, fWv, fWl, fW0, setWs, wiS, fLit, fVar, Pf.slotAt, varS, fBin, fNeg, negD, fCmp, fChain, fAnd, fOr, fNot, fBool, boolS, fTest, fIte, fAt, fAtD, fCut, fPart, fNoPart, fOs, fOs0, fFn, fVs, fVs0, fTup, fFresh, fDisp, fTupOf, fListOf, fIsi, fCall, fCallW, fVal, fSlotC, isSet, Pf.rs, Pf.rsS, Pf.rsV, rsAll, rsD, keyD, datS, datsS, setS_s, setS_dv, setS_ol, setS_dat, setS_none, setS_olst, setS_rlst, setS_fdic, setS_odic, gN, gT, gs0, gsC, lenIs, binD, add_ii, subD, mulD, fdivD, modD, cmpD, ordD, isD, isNn, isNi, isNb, isNt, isNl, isiD, at_l, at_t, fn_lenL, fn_lenT, fn_max2, fn_abs, fn_int, fn_intb, intV, seq_l, seq_t, lstV, fApp, fAugD, fAugI, olS, odS, odH, inS, getElem_s, List.replicate, l0, l1, hne, np__law_next, hg, hgp, hn, c1, c2, ai, np__law_bent, hb, a1, a2]
    · obtain ⟨d, k', o2, hB, hk', e⟩ := sec (k + 1) (by omega)
      refine ⟨d, k', hB, hk', fb_ret' (en' := [some (.odic true (W ns k')), some (.dat (.tuple zs)), o2]) rfl (B_next (en1 := [some (.odic true (W ns (k + 1))), some (.dat (.tuple zs)), none]) ?_ (B_ret e)) rfl⟩
      simp [evB, evS, evE, evL, evO, evOs, evEs, evT, evTs, evI, evC, evP, evDd, evPs, evWs, evG, evGs, fSeq2, aft, fNext, fRet, fIf, fAsg, fAsgL, fAsgT, fAsgD, fPar, fWv, fWl, fW0, setWs, wiS, fLit, fVar, Pf.slotAt, varS, fBin, fNeg, negD, fCmp, fChain, fAnd, fOr, fNot, fBool, boolS, fTest, fIte, fAt, fAtD, fCut, fPart, fNoPart, fOs, fOs0, fFn, fVs, fVs0, fTup, fFresh, fDisp, fTupOf, fListOf, fIsi, fCall, fCallW, fVal, fSlotC, isSet, Pf.rs, Pf.rsS, Pf.rsV, rsAll, rsD, keyD, datS, datsS, setS_s, setS_dv, setS_ol, setS_dat, setS_none, setS_olst, setS_rlst, setS_fdic, setS_odic, gN, gT, gs0, gsC, lenIs, binD, add_ii, subD, mulD, fdivD, modD, cmpD, ordD, isD, isNn, isNi, isNb, isNt, isNl, isiD, at_l, at_t, fn_lenL, fn_lenT, fn_max2, fn_abs, fn_int, fn_intb, intV, seq_l, seq_t, lstV, fApp, fAugD, fAugI, olS, odS, odH, inS, getElem_s, List.replicate, l0, hne, np__law_next, hg, hgp]


end K31

set_option maxHeartbeats 4000000
namespace K31
open PySem L2 Pf
-- slots 2 14
def E (ns dr : List Int) (k : Int) (o2 o3 o4 o5 o6 o7 o8 o9 o10 o11 o12 o13 o14 : Option SV) : En :=
  [some (.rlst (ns.map PyData.int)), some (.odic false (W dr k)), o2, o3, o4, o5, o6, o7, o8, o9, o10, o11, o12, o13, o14, none, none, none]
variable {ns dr : List Int} {k : Int} {o2 o3 o4 o5 o6 o7 o8 o9 o10 o11 o12 o13 o14 : Option SV} {m : Nat}
theorem z1 (h3 : Fr o3) : evS (Y m) s_law_1 (E ns dr (k) o2 o3 o4 o5 o6 o7 o8 o9 o10 o11 o12 o13 o14) = some (.next, (E ns dr (k) o2 (some (.olst [])) o4 o5 o6 o7 o8 o9 o10 o11 o12 o13 o14)) := by
  have l0 : (0 : Nat) ≤ lim := by decide
  unfold Fr at h3
  simp [s_law_1, evB, evS, evE, evL, evO, evOs, evEs, evT, evTs, evI, evC, evP, evDd, evPs, evWs, evG, evGs, fSeq2, aft, fNext, fRet, fIf, fAsg, fAsgL, fAsgT, fAsgD, fPar, fWv, fWl, fW0, setWs, wiS, fLit, fVar, Pf.slotAt, varS, fBin, fNeg, negD, fCmp, fChain, fAnd, fOr, fNot, fBool, boolS, fTest, fIte, fAt, fAtD, fCut, fPart, fNoPart, fOs, fOs0, fFn, fVs, fVs0, fTup, fFresh, fDisp, fTupOf, fListOf, fIsi, fCall, fCallW, fVal, fSlotC, isSet, Pf.rs, Pf.rsS, Pf.rsV, rsAll, rsD, keyD, datS, datsS, setS_s, setS_dv, setS_ol, setS_dat, setS_none, setS_olst, setS_rlst, setS_fdic, setS_odic, gN, gT, gs0, gsC, lenIs, binD, add_ii, subD, mulD, fdivD, modD, cmpD, ordD, isD, isNn, isNi, isNb, isNt, isNl, isiD, at_l, at_t, fn_lenL, fn_lenT, fn_max2, fn_abs, fn_int, fn_intb, intV, seq_l, seq_t, lstV, fApp, fAugD, fAugI, olS, odS, odH, inS, getElem_s, E, l0, h3]
theorem z4 (hm : 29 ≤ m) (hk : 0 ≤ k) (h4 : Fr o4) (h11 : Fr o11) : ∃ (k' : Int) (tp : Top) (o4' o11' : Option SV), 0 ≤ k' ∧ tp.length ≤ 3 ∧ Fr o4' ∧ Fr o11' ∧ evS (Y m) s_law_4 (E ns dr (k) o2 (some (.olst [])) o4 o5 o6 o7 o8 o9 o10 o11 o12 o13 o14) = some (.next, (E ns dr (k') o2 (some (.olst (tp.map trD))) (o4') o5 o6 o7 o8 o9 o10 (o11') o12 o13 o14)) := by
  obtain ⟨many, m0, m1, hmany⟩ := next_lv (lvm := m) (by omega) dr hk (many := 4) (by decide)
  obtain ⟨en', a1, k', tp, o4', o11', hk', hl, f4, f11, rfl⟩ := loop_inv (bd := evG (.name 4)) (body := evB (Y m) b_law_2) (P := fun i en => ∃ (k : Int) (tp : Top) (o4 o11 : Option SV), 0 ≤ k ∧ tp.length = i ∧ Fr o4 ∧ Fr o11 ∧ en = (E ns dr (k) o2 (some (.olst (tp.map trD))) o4 o5 o6 o7 o8 o9 o10 o11 o12 o13 o14)) (rngD 0 many.toNat) 0 (E ns dr (k + 1) o2 (some (.olst [])) o4 o5 o6 o7 o8 o9 o10 o11 o12 o13 o14) ⟨k + 1, [], o4, o11, by omega, rfl, h4, h11, rfl⟩ fun j d en hd hP => by
    obtain ⟨k, tp, o4, o11, hk, hl, h4, h11, rfl⟩ := hP
    obtain ⟨hj, rfl⟩ := rngD_at hd
    obtain ⟨r1, p0, p1, n1⟩ := next_lv (lvm := m) (by omega) dr hk (many := 3) (by decide)
    obtain ⟨r2, p2, p3, n2⟩ := next_lv (lvm := m) (by omega) dr (k := k + 1) (by omega) (many := 2) (by decide)
    obtain ⟨r3, p4, p5, n3⟩ := next_lv (lvm := m) (by omega) dr (k := k + 1 + 1) (by omega) (many := 2) (by decide)
    obtain ⟨q1, e1⟩ : ∃ q1 : Nat, 1 + r1 = (q1 : Int) := ⟨(1 + r1).toNat, by omega⟩
    obtain ⟨q2, e2⟩ : ∃ q2 : Nat, 1 + r2 = (q2 : Int) := ⟨(1 + r2).toNat, by omega⟩
    obtain ⟨q3, e3⟩ : ∃ q3 : Nat, (q1 : Int) + r3 = (q3 : Int) := ⟨((q1 : Int) + r3).toNat, by omega⟩
    have g4 : setS 4 (.dat (.int (0 + (j : Int)))) (E ns dr (k) o2 (some (.olst (tp.map trD))) o4 o5 o6 o7 o8 o9 o10 o11 o12 o13 o14) = some (E ns dr (k) o2 (some (.olst (tp.map trD))) (some (.dat (.int (0 + (j : Int))))) o5 o6 o7 o8 o9 o10 o11 o12 o13 o14) := by
      unfold Fr at h4
      simp [E, setS_s, h4]
    have hll : (tp.map trD).length < lim := by rw [List.length_map, hl]; unfold lim; omega
    have l3 : (3 : Nat) ≤ lim := by decide
    refine ⟨_, (E ns dr (k + 1 + 1 + 1) o2 (some (.olst ((tp ++ [(q2, q1, q3)]).map trD))) (some (.dat (.int (0 + (j : Int))))) o5 o6 o7 o8 o9 o10 (some (.dat (.int (q1 : Int)))) o12 o13 o14), g4, ?_, k + 1 + 1 + 1, tp ++ [(q2, q1, q3)], _, _, by omega, by rw [List.length_append, hl]; rfl, Fr_dat _, Fr_dat _, rfl⟩
    refine B_next (en1 := (E ns dr (k + 1) o2 (some (.olst (tp.map trD))) (some (.dat (.int (0 + (j : Int))))) o5 o6 o7 o8 o9 o10 (some (.dat (.int (q1 : Int)))) o12 o13 o14)) ?_ (B_next ?_ rfl)
    · unfold Fr at h11
      simp [s_law_2, evB, evS, evE, evL, evO, evOs, evEs, evT, evTs, evI, evC, evP, evDd, evPs, evWs, evG, evGs, fSeq2, aft, fNext, fRet, fIf, fAsg, fAsgL, fAsgT, fAsgD, fPar, fWv, fWl, fW0, setWs, wiS, fLit, fVar, Pf.slotAt, varS, fBin, fNeg, negD, fCmp, fChain, fAnd, fOr, fNot, fBool, boolS, fTest, fIte, fAt, fAtD, fCut, fPart, fNoPart, fOs, fOs0, fFn, fVs, fVs0, fTup, fFresh, fDisp, fTupOf, fListOf, fIsi, fCall, fCallW, fVal, fSlotC, isSet, Pf.rs, Pf.rsS, Pf.rsV, rsAll, rsD, keyD, datS, datsS, setS_s, setS_dv, setS_ol, setS_dat, setS_none, setS_olst, setS_rlst, setS_fdic, setS_odic, gN, gT, gs0, gsC, lenIs, binD, add_ii, subD, mulD, fdivD, modD, cmpD, ordD, isD, isNn, isNi, isNb, isNt, isNl, isiD, at_l, at_t, fn_lenL, fn_lenT, fn_max2, fn_abs, fn_int, fn_intb, intV, seq_l, seq_t, lstV, fApp, fAugD, fAugI, olS, odS, odH, inS, getElem_s, E, np__law_next, n1, e1, h11]
    · rw [List.map_append]
      generalize tp.map trD = xs at *
      simp [s_law_3, evB, evS, evE, evL, evO, evOs, evEs, evT, evTs, evI, evC, evP, evDd, evPs, evWs, evG, evGs, fSeq2, aft, fNext, fRet, fIf, fAsg, fAsgL, fAsgT, fAsgD, fPar, fWv, fWl, fW0, setWs, wiS, fLit, fVar, Pf.slotAt, varS, fBin, fNeg, negD, fCmp, fChain, fAnd, fOr, fNot, fBool, boolS, fTest, fIte, fAt, fAtD, fCut, fPart, fNoPart, fOs, fOs0, fFn, fVs, fVs0, fTup, fFresh, fDisp, fTupOf, fListOf, fIsi, fCall, fCallW, fVal, fSlotC, isSet, Pf.rs, Pf.rsS, Pf.rsV, rsAll, rsD, keyD, datS, datsS, setS_s, setS_dv, setS_ol, setS_dat, setS_none, setS_olst, setS_rlst, setS_fdic, setS_odic, gN, gT, gs0, gsC, lenIs, binD, add_ii, subD, mulD, fdivD, modD, cmpD, ordD, isD, isNn, isNi, isNb, isNt, isNl, isiD, at_l, at_t, fn_lenL, fn_lenT, fn_max2, fn_abs, fn_int, fn_intb, intV, seq_l, seq_t, lstV, fApp, fAugD, fAugI, olS, odS, odH, inS, getElem_s, E, np__law_next, n2, n3, e2, e3, hll, l3, trD]
  rw [rngD_len, Nat.zero_add] at hl
  refine ⟨k', tp, o4', o11', hk', by omega, f4, f11, ?_⟩
  unfold s_law_4
  refine for_next (ds := rngD 0 many.toNat) (en1 := (E ns dr (k + 1) o2 (some (.olst [])) o4 o5 o6 o7 o8 o9 o10 o11 o12 o13 o14)) ?_ a1
  exact rng1_ev (os := [.val (.dat (.int many))]) (m := many) (by simp [evB, evS, evE, evL, evO, evOs, evEs, evT, evTs, evI, evC, evP, evDd, evPs, evWs, evG, evGs, fSeq2, aft, fNext, fRet, fIf, fAsg, fAsgL, fAsgT, fAsgD, fPar, fWv, fWl, fW0, setWs, wiS, fLit, fVar, Pf.slotAt, varS, fBin, fNeg, negD, fCmp, fChain, fAnd, fOr, fNot, fBool, boolS, fTest, fIte, fAt, fAtD, fCut, fPart, fNoPart, fOs, fOs0, fFn, fVs, fVs0, fTup, fFresh, fDisp, fTupOf, fListOf, fIsi, fCall, fCallW, fVal, fSlotC, isSet, Pf.rs, Pf.rsS, Pf.rsV, rsAll, rsD, keyD, datS, datsS, setS_s, setS_dv, setS_ol, setS_dat, setS_none, setS_olst, setS_rlst, setS_fdic, setS_odic, gN, gT, gs0, gsC, lenIs, binD, add_ii, subD, mulD, fdivD, modD, cmpD, ordD, isD, isNn, isNi, isNb, isNt, isNl, isiD, at_l, at_t, fn_lenL, fn_lenT, fn_max2, fn_abs, fn_int, fn_intb, intV, seq_l, seq_t, lstV, fApp, fAugD, fAugI, olS, odS, odH, inS, getElem_s, E, np__law_next, hmany]) (by simp [evB, evS, evE, evL, evO, evOs, evEs, evT, evTs, evI, evC, evP, evDd, evPs, evWs, evG, evGs, fSeq2, aft, fNext, fRet, fIf, fAsg, fAsgL, fAsgT, fAsgD, fPar, fWv, fWl, fW0, setWs, wiS, fLit, fVar, Pf.slotAt, varS, fBin, fNeg, negD, fCmp, fChain, fAnd, fOr, fNot, fBool, boolS, fTest, fIte, fAt, fAtD, fCut, fPart, fNoPart, fOs, fOs0, fFn, fVs, fVs0, fTup, fFresh, fDisp, fTupOf, fListOf, fIsi, fCall, fCallW, fVal, fSlotC, isSet, Pf.rs, Pf.rsS, Pf.rsV, rsAll, rsD, keyD, datS, datsS, setS_s, setS_dv, setS_ol, setS_dat, setS_none, setS_olst, setS_rlst, setS_fdic, setS_odic, gN, gT, gs0, gsC, lenIs, binD, add_ii, subD, mulD, fdivD, modD, cmpD, ordD, isD, isNn, isNi, isNb, isNt, isNl, isiD, at_l, at_t, fn_lenL, fn_lenT, fn_max2, fn_abs, fn_int, fn_intb, intV, seq_l, seq_t, lstV, fApp, fAugD, fAugI, olS, odS, odH, inS, getElem_s]) (by omega) (by omega)
theorem z5 (hm : 29 ≤ m) (hk : 0 ≤ k) (h5 : Fr o5) {tp : Top} : ∃ p : Nat, p ≤ 5 ∧ evS (Y m) s_law_5 (E ns dr (k) o2 (some (.olst (tp.map trD))) o4 o5 o6 o7 o8 o9 o10 o11 o12 o13 o14) = some (.next, (E ns dr (k + 1) o2 (some (.dat (td tp))) o4 (some (.dat (.int (p : Int)))) o6 o7 o8 o9 o10 o11 o12 o13 o14)) := by
  obtain ⟨r1, p0, p1, n1⟩ := next_lv (lvm := m) (by omega) dr hk (many := 6) (by decide)
  obtain ⟨p, rfl⟩ : ∃ p : Nat, r1 = (p : Int) := ⟨r1.toNat, by omega⟩
  have l2 : (2 : Nat) ≤ lim := by decide
  refine ⟨p, by omega, ?_⟩
  unfold Fr at h5
  unfold td
  generalize tp.map trD = xs at *
  simp [s_law_5, evB, evS, evE, evL, evO, evOs, evEs, evT, evTs, evI, evC, evP, evDd, evPs, evWs, evG, evGs, fSeq2, aft, fNext, fRet, fIf, fAsg, fAsgL, fAsgT, fAsgD, fPar, fWv, fWl, fW0, setWs, wiS, fLit, fVar, Pf.slotAt, varS, fBin, fNeg, negD, fCmp, fChain, fAnd, fOr, fNot, fBool, boolS, fTest, fIte, fAt, fAtD, fCut, fPart, fNoPart, fOs, fOs0, fFn, fVs, fVs0, fTup, fFresh, fDisp, fTupOf, fListOf, fIsi, fCall, fCallW, fVal, fSlotC, isSet, Pf.rs, Pf.rsS, Pf.rsV, rsAll, rsD, keyD, datS, datsS, setS_s, setS_dv, setS_ol, setS_dat, setS_none, setS_olst, setS_rlst, setS_fdic, setS_odic, gN, gT, gs0, gsC, lenIs, binD, add_ii, subD, mulD, fdivD, modD, cmpD, ordD, isD, isNn, isNi, isNb, isNt, isNl, isiD, at_l, at_t, fn_lenL, fn_lenT, fn_max2, fn_abs, fn_int, fn_intb, intV, seq_l, seq_t, lstV, fApp, fAugD, fAugI, olS, odS, odH, inS, getElem_s, E, np__law_next, n1, l2, h5]
theorem z6 (hm : 29 ≤ m) {tp : Top} (ht : tp.length ≤ 3) {p : Nat} (hp : p ≤ 5) (h6 : Fr o6) : evS (Y m) s_law_6 (E ns dr (k) o2 (some (.dat (td tp))) o4 (some (.dat (.int (p : Int)))) o6 o7 o8 o9 o10 o11 o12 o13 o14) = some (.next, (E ns dr (k) o2 (some (.dat (td tp))) o4 (some (.dat (.int (p : Int)))) (some (.dat (ro (fstR tp p)))) o7 o8 o9 o10 o11 o12 o13 o14)) := by
  have c1 := lfirst_lv (lvm := m) (by omega) ht (p := p) (by omega)
  unfold Fr at h6
  generalize ro (fstR tp p) = X at *
  simp [s_law_6, evB, evS, evE, evL, evO, evOs, evEs, evT, evTs, evI, evC, evP, evDd, evPs, evWs, evG, evGs, fSeq2, aft, fNext, fRet, fIf, fAsg, fAsgL, fAsgT, fAsgD, fPar, fWv, fWl, fW0, setWs, wiS, fLit, fVar, Pf.slotAt, varS, fBin, fNeg, negD, fCmp, fChain, fAnd, fOr, fNot, fBool, boolS, fTest, fIte, fAt, fAtD, fCut, fPart, fNoPart, fOs, fOs0, fFn, fVs, fVs0, fTup, fFresh, fDisp, fTupOf, fListOf, fIsi, fCall, fCallW, fVal, fSlotC, isSet, Pf.rs, Pf.rsS, Pf.rsV, rsAll, rsD, keyD, datS, datsS, setS_s, setS_dv, setS_ol, setS_dat, setS_none, setS_olst, setS_rlst, setS_fdic, setS_odic, gN, gT, gs0, gsC, lenIs, binD, add_ii, subD, mulD, fdivD, modD, cmpD, ordD, isD, isNn, isNi, isNb, isNt, isNl, isiD, at_l, at_t, fn_lenL, fn_lenT, fn_max2, fn_abs, fn_int, fn_intb, intV, seq_l, seq_t, lstV, fApp, fAugD, fAugI, olS, odS, odH, inS, getElem_s, E, np__law_first, c1, h6]
theorem sg_od (n : Nat) (o : Option Nat) : sg n (od o) := by
  cases o
  · exact sg_none n
  · exact sg_int n _
theorem sg_rd {r : Row} (h : r.length ≤ 100) : sg 1 (rd r) := sg_tup (by rw [List.length_map]; unfold lim; omega) fun d hd => by
  obtain ⟨o, _, rfl⟩ := List.mem_map.mp hd
  exact sg_od 0 o
theorem fst_in {tp : Top} {p : Nat} {r : Row} (h : fstR tp p = some r) : r.length = p ∧ InR tp r := levs_in tp p r (List.mem_of_find?_eq_some h)
theorem sg_ro {tp : Top} {p : Nat} (hp : p ≤ 100) : sg 1 (ro (fstR tp p)) := by
  cases h : fstR tp p with
  | none => exact sg_none 1
  | some r => exact sg_rd (by rw [(fst_in h).1]; exact hp)
theorem z7 (hm : 29 ≤ m) {tp : Top} (ht : tp.length ≤ 3) {p : Nat} (hp : p ≤ 5) : evS (Y m) s_law_7 (E ns dr (k) o2 (some (.dat (td tp))) o4 (some (.dat (.int (p : Int)))) (some (.dat (ro (fstR tp p)))) o7 o8 o9 o10 o11 o12 o13 o14) = some (.next, (E ns dr (k) o2 (some (.dat (td tp))) o4 (some (.dat (.int (p : Int)))) (some (.dat (ro (fstR tp p)))) o7 o8 o9 o10 o11 o12 o13 o14)) := by
  have c1 := back_row_lv (lvm := m) (by omega) ht (p := p) (by omega)
  have c2 : ((Y m).f 15).2 [.dat (ro (fstR tp p)), .dat (ro (fstR tp p))] = _ := same_lv 1 (by omega) (sg_ro (by omega))
  generalize ro (fstR tp p) = X at *
  simp [s_law_7, evB, evS, evE, evL, evO, evOs, evEs, evT, evTs, evI, evC, evP, evDd, evPs, evWs, evG, evGs, fSeq2, aft, fNext, fRet, fIf, fAsg, fAsgL, fAsgT, fAsgD, fPar, fWv, fWl, fW0, setWs, wiS, fLit, fVar, Pf.slotAt, varS, fBin, fNeg, negD, fCmp, fChain, fAnd, fOr, fNot, fBool, boolS, fTest, fIte, fAt, fAtD, fCut, fPart, fNoPart, fOs, fOs0, fFn, fVs, fVs0, fTup, fFresh, fDisp, fTupOf, fListOf, fIsi, fCall, fCallW, fVal, fSlotC, isSet, Pf.rs, Pf.rsS, Pf.rsV, rsAll, rsD, keyD, datS, datsS, setS_s, setS_dv, setS_ol, setS_dat, setS_none, setS_olst, setS_rlst, setS_fdic, setS_odic, gN, gT, gs0, gsC, lenIs, binD, add_ii, subD, mulD, fdivD, modD, cmpD, ordD, isD, isNn, isNi, isNb, isNt, isNl, isiD, at_l, at_t, fn_lenL, fn_lenT, fn_max2, fn_abs, fn_int, fn_intb, intV, seq_l, seq_t, lstV, fApp, fAugD, fAugI, olS, odS, odH, inS, getElem_s, E, np_back_row, np__law_same, c1, c2]
theorem z8 (hm : 29 ≤ m) {tp : Top} (ht : tp.length ≤ 3) (h7 : Fr o7) : evS (Y m) s_law_8 (E ns dr (k) o2 (some (.dat (td tp))) o4 o5 o6 o7 o8 o9 o10 o11 o12 o13 o14) = some (.next, (E ns dr (k) o2 (some (.dat (td tp))) o4 o5 o6 (some (.olst (nl ((List.range 6).filter fun p => (fstR tp p).isSome)))) o8 o9 o10 o11 o12 o13 o14)) := by
  have hcomp := comp_map (vs := [15]) (bd := evG (.name 15)) (cond := evC (Y m) c_law_1c) (elt := evE (Y m) c_law_1e) (f := fun i : Nat => PyData.int (i : Int)) (g := fun i : Nat => PyData.int (i : Int)) (p := fun p => (fstR tp p).isSome) (en := (E ns dr (k) o2 (some (.dat (td tp))) o4 o5 o6 o7 o8 o9 o10 o11 o12 o13 o14)) (List.range 6) fun i hi => by
    have hi := List.mem_range.mp hi
    have c1 := lfirst_lv (lvm := m) (by omega) ht (p := i) (by omega)
    have hn := isN_ro (fstR tp i)
    refine ⟨((E ns dr (k) o2 (some (.dat (td tp))) o4 o5 o6 o7 o8 o9 o10 o11 o12 o13 o14) : En).set 15 (some (.dat (.int (i : Int)))), ((E ns dr (k) o2 (some (.dat (td tp))) o4 o5 o6 o7 o8 o9 o10 o11 o12 o13 o14) : En).set 15 (some (.dat (.int (i : Int)))), rfl, ?_, ?_⟩
    · generalize (fstR tp i).isSome = b at *
      generalize ro (fstR tp i) = X at *
      simp [c_law_1c, evB, evS, evE, evL, evO, evOs, evEs, evT, evTs, evI, evC, evP, evDd, evPs, evWs, evG, evGs, fSeq2, aft, fNext, fRet, fIf, fAsg, fAsgL, fAsgT, fAsgD, fPar, fWv, fWl, fW0, setWs, wiS, fLit, fVar, Pf.slotAt, varS, fBin, fNeg, negD, fCmp, fChain, fAnd, fOr, fNot, fBool, boolS, fTest, fIte, fAt, fAtD, fCut, fPart, fNoPart, fOs, fOs0, fFn, fVs, fVs0, fTup, fFresh, fDisp, fTupOf, fListOf, fIsi, fCall, fCallW, fVal, fSlotC, isSet, Pf.rs, Pf.rsS, Pf.rsV, rsAll, rsD, keyD, datS, datsS, setS_s, setS_dv, setS_ol, setS_dat, setS_none, setS_olst, setS_rlst, setS_fdic, setS_odic, gN, gT, gs0, gsC, lenIs, binD, add_ii, subD, mulD, fdivD, modD, cmpD, ordD, isD, isNn, isNi, isNb, isNt, isNl, isiD, at_l, at_t, fn_lenL, fn_lenT, fn_max2, fn_abs, fn_int, fn_intb, intV, seq_l, seq_t, lstV, fApp, fAugD, fAugI, olS, odS, odH, inS, getElem_s, E, np__law_first, c1, hn]
    · split
      · exact ⟨((E ns dr (k) o2 (some (.dat (td tp))) o4 o5 o6 o7 o8 o9 o10 o11 o12 o13 o14) : En).set 15 (some (.dat (.int (i : Int)))), by simp [c_law_1e, evB, evS, evE, evL, evO, evOs, evEs, evT, evTs, evI, evC, evP, evDd, evPs, evWs, evG, evGs, fSeq2, aft, fNext, fRet, fIf, fAsg, fAsgL, fAsgT, fAsgD, fPar, fWv, fWl, fW0, setWs, wiS, fLit, fVar, Pf.slotAt, varS, fBin, fNeg, negD, fCmp, fChain, fAnd, fOr, fNot, fBool, boolS, fTest, fIte, fAt, fAtD, fCut, fPart, fNoPart, fOs, fOs0, fFn, fVs, fVs0, fTup, fFresh, fDisp, fTupOf, fListOf, fIsi, fCall, fCallW, fVal, fSlotC, isSet, Pf.rs, Pf.rsS, Pf.rsV, rsAll, rsD, keyD, datS, datsS, setS_s, setS_dv, setS_ol, setS_dat, setS_none, setS_olst, setS_rlst, setS_fdic, setS_odic, gN, gT, gs0, gsC, lenIs, binD, add_ii, subD, mulD, fdivD, modD, cmpD, ordD, isD, isNn, isNi, isNb, isNt, isNl, isiD, at_l, at_t, fn_lenL, fn_lenT, fn_max2, fn_abs, fn_int, fn_intb, intV, seq_l, seq_t, lstV, fApp, fAugD, fAugI, olS, odS, odH, inS, getElem_s, E], rfl⟩
      · rfl
  have hr : evL (Y m) c_law_1 (E ns dr (k) o2 (some (.dat (td tp))) o4 o5 o6 o7 o8 o9 o10 o11 o12 o13 o14) = some (nl ((List.range 6).filter fun p => (fstR tp p).isSome), (E ns dr (k) o2 (some (.dat (td tp))) o4 o5 o6 o7 o8 o9 o10 o11 o12 o13 o14)) := by
    unfold c_law_1
    refine (comp_ev (ds := rngD 0 6) (en1 := (E ns dr (k) o2 (some (.dat (td tp))) o4 o5 o6 o7 o8 o9 o10 o11 o12 o13 o14)) (en2 := (E ns dr (k) o2 (some (.dat (td tp))) o4 o5 o6 o7 o8 o9 o10 o11 o12 o13 o14)) (r := nl ((List.range 6).filter fun p => (fstR tp p).isSome)) ?_ ?_ ?_).trans rfl
    · exact rng1_ev (os := [.val (.dat (.int 6))]) (m := 6) rfl rfl rfl (by omega)
    · rw [rngD_len]; unfold lim; omega
    · rw [rngD_map]; exact hcomp
  unfold s_law_8
  rw [evS]; unfold fAsgL
  rw [hr, Option.bind_some]
  unfold Fr at h7
  simp [evB, evS, evE, evL, evO, evOs, evEs, evT, evTs, evI, evC, evP, evDd, evPs, evWs, evG, evGs, fSeq2, aft, fNext, fRet, fIf, fAsg, fAsgL, fAsgT, fAsgD, fPar, fWv, fWl, fW0, setWs, wiS, fLit, fVar, Pf.slotAt, varS, fBin, fNeg, negD, fCmp, fChain, fAnd, fOr, fNot, fBool, boolS, fTest, fIte, fAt, fAtD, fCut, fPart, fNoPart, fOs, fOs0, fFn, fVs, fVs0, fTup, fFresh, fDisp, fTupOf, fListOf, fIsi, fCall, fCallW, fVal, fSlotC, isSet, Pf.rs, Pf.rsS, Pf.rsV, rsAll, rsD, keyD, datS, datsS, setS_s, setS_dv, setS_ol, setS_dat, setS_none, setS_olst, setS_rlst, setS_fdic, setS_odic, gN, gT, gs0, gsC, lenIs, binD, add_ii, subD, mulD, fdivD, modD, cmpD, ordD, isD, isNn, isNi, isNb, isNt, isNl, isiD, at_l, at_t, fn_lenL, fn_lenT, fn_max2, fn_abs, fn_int, fn_intb, intV, seq_l, seq_t, lstV, fApp, fAugD, fAugI, olS, odS, odH, inS, getElem_s, E, h7]
theorem z9 (hm : 29 ≤ m) {tp : Top} (ht : tp.length ≤ 3) : evS (Y m) s_law_9 (E ns dr (k) o2 (some (.dat (td tp))) o4 o5 o6 (some (.olst (nl ((List.range 6).filter fun p => (fstR tp p).isSome)))) o8 o9 o10 o11 o12 o13 o14) = some (.next, (E ns dr (k) o2 (some (.dat (td tp))) o4 o5 o6 (some (.olst (nl ((List.range 6).filter fun p => (fstR tp p).isSome)))) o8 o9 o10 o11 o12 o13 o14)) := by
  have l0 : (0 : Nat) ≤ lim := by decide
  have c1 := least_places_lv (lvm := m) (by omega) ht
  rw [← ff_head] at c1
  have c2 : ∀ o, ((Y m).f 15).2 [.dat (od o), .dat (od o)] = _ := fun o => same_lv 0 (by omega) (sg_od 0 o)
  cases hz : (List.range 6).filter fun p => (fstR tp p).isSome with
  | nil =>
    rw [hz] at c1
    have c3 := c2 none
    have e : nl [] = [] := rfl
    rw [e]
    simp only [List.head?_nil, od] at c1 c3
    simp [s_law_9, evB, evS, evE, evL, evO, evOs, evEs, evT, evTs, evI, evC, evP, evDd, evPs, evWs, evG, evGs, fSeq2, aft, fNext, fRet, fIf, fAsg, fAsgL, fAsgT, fAsgD, fPar, fWv, fWl, fW0, setWs, wiS, fLit, fVar, Pf.slotAt, varS, fBin, fNeg, negD, fCmp, fChain, fAnd, fOr, fNot, fBool, boolS, fTest, fIte, fAt, fAtD, fCut, fPart, fNoPart, fOs, fOs0, fFn, fVs, fVs0, fTup, fFresh, fDisp, fTupOf, fListOf, fIsi, fCall, fCallW, fVal, fSlotC, isSet, Pf.rs, Pf.rsS, Pf.rsV, rsAll, rsD, keyD, datS, datsS, setS_s, setS_dv, setS_ol, setS_dat, setS_none, setS_olst, setS_rlst, setS_fdic, setS_odic, gN, gT, gs0, gsC, lenIs, binD, add_ii, subD, mulD, fdivD, modD, cmpD, ordD, isD, isNn, isNi, isNb, isNt, isNl, isiD, at_l, at_t, fn_lenL, fn_lenT, fn_max2, fn_abs, fn_int, fn_intb, intV, seq_l, seq_t, lstV, fApp, fAugD, fAugI, olS, odS, odH, inS, getElem_s, E, l0, eqD_nil, np_least_places, np__law_same, c1, c3]
  | cons a l =>
    rw [hz] at c1
    have c3 := c2 (some a)
    have hne : eqD (.list (nl (a :: l))) (.list []) = some false := by
      unfold nl
      rw [List.map_cons]
      refine eqD_ne_nil (n := 0) (fun d hd => ?_) (by decide)
      have hd : d ∈ (a :: l).map fun n : Nat => PyData.int (n : Int) := hd
      obtain ⟨i, _, rfl⟩ := List.mem_map.mp hd
      exact shD_int 0 _
    have ha0 : atI (nl (a :: l)) 0 = some (.int (a : Int)) := at0 _ _
    simp only [List.head?_cons, od] at c1 c3
    generalize nl (a :: l) = xs at *
    simp [s_law_9, evB, evS, evE, evL, evO, evOs, evEs, evT, evTs, evI, evC, evP, evDd, evPs, evWs, evG, evGs, fSeq2, aft, fNext, fRet, fIf, fAsg, fAsgL, fAsgT, fAsgD, fPar, fWv, fWl, fW0, setWs, wiS, fLit, fVar, Pf.slotAt, varS, fBin, fNeg, negD, fCmp, fChain, fAnd, fOr, fNot, fBool, boolS, fTest, fIte, fAt, fAtD, fCut, fPart, fNoPart, fOs, fOs0, fFn, fVs, fVs0, fTup, fFresh, fDisp, fTupOf, fListOf, fIsi, fCall, fCallW, fVal, fSlotC, isSet, Pf.rs, Pf.rsS, Pf.rsV, rsAll, rsD, keyD, datS, datsS, setS_s, setS_dv, setS_ol, setS_dat, setS_none, setS_olst, setS_rlst, setS_fdic, setS_odic, gN, gT, gs0, gsC, lenIs, binD, add_ii, subD, mulD, fdivD, modD, cmpD, ordD, isD, isNn, isNi, isNb, isNt, isNl, isiD, at_l, at_t, fn_lenL, fn_lenT, fn_max2, fn_abs, fn_int, fn_intb, intV, seq_l, seq_t, lstV, fApp, fAugD, fAugI, olS, odS, odH, inS, getElem_s, E, l0, hne, ha0, np_least_places, np__law_same, c1, c3]
theorem z10 (hm : 29 ≤ m) (hk : 0 ≤ k) {tp : Top} (ht : tp.length ≤ 3) (h8 : Fr o8) : ∃ (k' : Int) (r : Row), 0 ≤ k' ∧ r.length ≤ 4 ∧ evS (Y m) s_law_10 (E ns dr (k) o2 (some (.dat (td tp))) o4 o5 o6 o7 o8 o9 o10 o11 o12 o13 o14) = some (.next, (E ns dr (k') o2 (some (.dat (td tp))) o4 o5 o6 o7 (some (.dat (rd r))) o9 o10 o11 o12 o13 o14)) := by
  obtain ⟨many, m0, m1, hmany⟩ := next_lv (lvm := m) (by omega) dr hk (many := 5) (by decide)
  have l1 : (1 : Nat) ≤ lim := by decide
  obtain ⟨l, en', a1, k1, r, hk1, rfl, rl, rfl⟩ := comp_inv (vs := [16]) (bd := evG (.name 16)) (cond := evC (Y m) c_law_2c) (elt := evE (Y m) c_law_2e) (P := fun i acc en => ∃ (k1 : Int) (r : Row), 0 ≤ k1 ∧ acc = r.map od ∧ r.length = i ∧ en = (E ns dr (k1) o2 (some (.dat (td tp))) o4 o5 o6 o7 o8 o9 o10 o11 o12 o13 o14)) (rngD 0 many.toNat) 0 [] (E ns dr (k + 1) o2 (some (.dat (td tp))) o4 o5 o6 o7 o8 o9 o10 o11 o12 o13 o14) ⟨k + 1, [], by omega, rfl, rfl, rfl⟩ fun j d acc en hd hP => by
    obtain ⟨k1, r, hk1, rfl, rl, rfl⟩ := hP
    obtain ⟨hj, rfl⟩ := rngD_at hd
    obtain ⟨d, hd2, hp⟩ := pickw (m := m) (by omega) dr hk1 (ds := (opts tp).map od) (by unfold opts; simp)
    obtain ⟨o, _, rfl⟩ := List.mem_map.mp hd2
    refine ⟨((E ns dr (k1) o2 (some (.dat (td tp))) o4 o5 o6 o7 o8 o9 o10 o11 o12 o13 o14) : En).set 16 (some (.dat (.int (0 + (j : Int))))), true, ((E ns dr (k1) o2 (some (.dat (td tp))) o4 o5 o6 o7 o8 o9 o10 o11 o12 o13 o14) : En).set 16 (some (.dat (.int (0 + (j : Int))))), rfl, rfl, ?_⟩
    rw [if_pos rfl]
    refine ⟨od o, ((E ns dr (k1 + 1) o2 (some (.dat (td tp))) o4 o5 o6 o7 o8 o9 o10 o11 o12 o13 o14) : En).set 16 (some (.dat (.int (0 + (j : Int))))), ?_, k1 + 1, r ++ [o], by omega, by rw [List.map_append]; rfl, by rw [List.length_append, rl]; rfl, rfl⟩
    have hadd : addD (.list (rngD 0 tp.length)) (.list [.none]) = some (.list ((opts tp).map od)) := by
      show (if _ then some (PyData.list _) else none) = _
      rw [if_pos (by rw [rngD_len]; show _ + 1 ≤ lim; unfold lim; omega), rngD_map]
      unfold opts
      rw [List.map_append, List.map_map]
      rfl
    generalize (opts tp).map od = xs at *
    obtain ⟨en0, hen0⟩ : ∃ en0, en0 = ((E ns dr (k1) o2 (some (.dat (td tp))) o4 o5 o6 o7 o8 o9 o10 o11 o12 o13 o14) : En).set 16 (some (.dat (.int (0 + (j : Int))))) := ⟨_, rfl⟩
    have hq : evE (Y m) (.bin .add (.val (.fresh (.ofR1 (.val (.fn .len (.cons (.slot 3) .nil)))))) (.val (.fresh (.disp (.cons (.lit .none) .nil))))) en0 = some (.dat (.list xs), en0) := by
      have q : evO (Y m) (.val (.fn .len (.cons (.slot 3) .nil))) en0 = some (.val (.dat (.int (tp.length : Int))), en0) := by rw [hen0]; simp [evB, evS, evE, evL, evO, evOs, evEs, evT, evTs, evI, evC, evP, evDd, evPs, evWs, evG, evGs, fSeq2, aft, fNext, fRet, fIf, fAsg, fAsgL, fAsgT, fAsgD, fPar, fWv, fWl, fW0, setWs, wiS, fLit, fVar, Pf.slotAt, varS, fBin, fNeg, negD, fCmp, fChain, fAnd, fOr, fNot, fBool, boolS, fTest, fIte, fAt, fAtD, fCut, fPart, fNoPart, fOs, fOs0, fFn, fVs, fVs0, fTup, fFresh, fDisp, fTupOf, fListOf, fIsi, fCall, fCallW, fVal, fSlotC, isSet, Pf.rs, Pf.rsS, Pf.rsV, rsAll, rsD, keyD, datS, datsS, setS_s, setS_dv, setS_ol, setS_dat, setS_none, setS_olst, setS_rlst, setS_fdic, setS_odic, gN, gT, gs0, gsC, lenIs, binD, add_ii, subD, mulD, fdivD, modD, cmpD, ordD, isD, isNn, isNi, isNb, isNt, isNl, isiD, at_l, at_t, fn_lenL, fn_lenT, fn_max2, fn_abs, fn_int, fn_intb, intV, seq_l, seq_t, lstV, fApp, fAugD, fAugI, olS, odS, odH, inS, getElem_s, E, fn_len_td]
      have hq1 : evO (Y m) (.val (.fresh (.ofR1 (.val (.fn .len (.cons (.slot 3) .nil)))))) en0 = some (.val (.dat (.list (rngD 0 tp.length))), en0) := by
        rw [evO]; unfold fVal
        rw [evE]; unfold fFresh
        rw [evL]; unfold fOfR1
        rw [q, Option.bind_some]
        show Option.bind (Option.bind (if (tp.length : Int) ≤ 1000000 ∧ -1000000 ≤ (tp.length : Int) then some (rngD 0 (tp.length : Int).toNat, _) else none) _) _ = _
        rw [if_pos (by omega), Int.toNat_natCast]
        rfl
      have hq2 : evO (Y m) (.val (.fresh (.disp (.cons (.lit .none) .nil)))) en0 = some (.val (.dat (.list [.none])), en0) := by
        simp [evB, evS, evE, evL, evO, evOs, evEs, evT, evTs, evI, evC, evP, evDd, evPs, evWs, evG, evGs, fSeq2, aft, fNext, fRet, fIf, fAsg, fAsgL, fAsgT, fAsgD, fPar, fWv, fWl, fW0, setWs, wiS, fLit, fVar, Pf.slotAt, varS, fBin, fNeg, negD, fCmp, fChain, fAnd, fOr, fNot, fBool, boolS, fTest, fIte, fAt, fAtD, fCut, fPart, fNoPart, fOs, fOs0, fFn, fVs, fVs0, fTup, fFresh, fDisp, fTupOf, fListOf, fIsi, fCall, fCallW, fVal, fSlotC, isSet, Pf.rs, Pf.rsS, Pf.rsV, rsAll, rsD, keyD, datS, datsS, setS_s, setS_dv, setS_ol, setS_dat, setS_none, setS_olst, setS_rlst, setS_fdic, setS_odic, gN, gT, gs0, gsC, lenIs, binD, add_ii, subD, mulD, fdivD, modD, cmpD, ordD, isD, isNn, isNi, isNb, isNt, isNl, isiD, at_l, at_t, fn_lenL, fn_lenT, fn_max2, fn_abs, fn_int, fn_intb, intV, seq_l, seq_t, lstV, fApp, fAugD, fAugI, olS, odS, odH, inS, getElem_s, l1]
      rw [evE]; unfold fBin
      rw [hq1, Option.bind_some, hq2, Option.bind_some]
      show Option.bind (addD (.list (rngD 0 tp.length)) (.list [.none])) _ = _
      rw [hadd]
      rfl
    rw [← hen0]
    unfold c_law_2e
    have hw : en0[1]? = some (some (.odic false (W dr k1))) := by rw [hen0]; rfl
    rw [evE]
    unfold fCallW
    rw [hw]
    have hes : evEs (Y m) (.cons (.bin .add (.val (.fresh (.ofR1 (.val (.fn .len (.cons (.slot 3) .nil)))))) (.val (.fresh (.disp (.cons (.lit .none) .nil))))) .nil) en0 = some ([.dat (.list xs)], en0) := by
      rw [evEs]; unfold fVs
      rw [hq, Option.bind_some]
      rfl
    rw [hes, hen0]
    simp [evB, evS, evE, evL, evO, evOs, evEs, evT, evTs, evI, evC, evP, evDd, evPs, evWs, evG, evGs, fSeq2, aft, fNext, fRet, fIf, fAsg, fAsgL, fAsgT, fAsgD, fPar, fWv, fWl, fW0, setWs, wiS, fLit, fVar, Pf.slotAt, varS, fBin, fNeg, negD, fCmp, fChain, fAnd, fOr, fNot, fBool, boolS, fTest, fIte, fAt, fAtD, fCut, fPart, fNoPart, fOs, fOs0, fFn, fVs, fVs0, fTup, fFresh, fDisp, fTupOf, fListOf, fIsi, fCall, fCallW, fVal, fSlotC, isSet, Pf.rs, Pf.rsS, Pf.rsV, rsAll, rsD, keyD, datS, datsS, setS_s, setS_dv, setS_ol, setS_dat, setS_none, setS_olst, setS_rlst, setS_fdic, setS_odic, gN, gT, gs0, gsC, lenIs, binD, add_ii, subD, mulD, fdivD, modD, cmpD, ordD, isD, isNn, isNi, isNb, isNt, isNl, isiD, at_l, at_t, fn_lenL, fn_lenT, fn_max2, fn_abs, fn_int, fn_intb, intV, seq_l, seq_t, lstV, fApp, fAugD, fAugI, olS, odS, odH, inS, getElem_s, E, np__law_pick, hp]
  rw [rngD_len, Nat.zero_add] at rl
  refine ⟨k1, r, hk1, by omega, ?_⟩
  have hs : evL (Y m) c_law_2 (E ns dr (k) o2 (some (.dat (td tp))) o4 o5 o6 o7 o8 o9 o10 o11 o12 o13 o14) = some (r.map od, (E ns dr (k1) o2 (some (.dat (td tp))) o4 o5 o6 o7 o8 o9 o10 o11 o12 o13 o14)) := by
    unfold c_law_2
    refine (comp_ev (ds := rngD 0 many.toNat) (en1 := (E ns dr (k + 1) o2 (some (.dat (td tp))) o4 o5 o6 o7 o8 o9 o10 o11 o12 o13 o14)) (en2 := (E ns dr (k1) o2 (some (.dat (td tp))) o4 o5 o6 o7 o8 o9 o10 o11 o12 o13 o14)) (r := r.map od) ?_ ?_ ?_).trans rfl
    · exact rng1_ev (os := [.val (.dat (.int many))]) (m := many) (by simp [c_law_2i, evB, evS, evE, evL, evO, evOs, evEs, evT, evTs, evI, evC, evP, evDd, evPs, evWs, evG, evGs, fSeq2, aft, fNext, fRet, fIf, fAsg, fAsgL, fAsgT, fAsgD, fPar, fWv, fWl, fW0, setWs, wiS, fLit, fVar, Pf.slotAt, varS, fBin, fNeg, negD, fCmp, fChain, fAnd, fOr, fNot, fBool, boolS, fTest, fIte, fAt, fAtD, fCut, fPart, fNoPart, fOs, fOs0, fFn, fVs, fVs0, fTup, fFresh, fDisp, fTupOf, fListOf, fIsi, fCall, fCallW, fVal, fSlotC, isSet, Pf.rs, Pf.rsS, Pf.rsV, rsAll, rsD, keyD, datS, datsS, setS_s, setS_dv, setS_ol, setS_dat, setS_none, setS_olst, setS_rlst, setS_fdic, setS_odic, gN, gT, gs0, gsC, lenIs, binD, add_ii, subD, mulD, fdivD, modD, cmpD, ordD, isD, isNn, isNi, isNb, isNt, isNl, isiD, at_l, at_t, fn_lenL, fn_lenT, fn_max2, fn_abs, fn_int, fn_intb, intV, seq_l, seq_t, lstV, fApp, fAugD, fAugI, olS, odS, odH, inS, getElem_s, E, np__law_next, hmany]) (by simp [evB, evS, evE, evL, evO, evOs, evEs, evT, evTs, evI, evC, evP, evDd, evPs, evWs, evG, evGs, fSeq2, aft, fNext, fRet, fIf, fAsg, fAsgL, fAsgT, fAsgD, fPar, fWv, fWl, fW0, setWs, wiS, fLit, fVar, Pf.slotAt, varS, fBin, fNeg, negD, fCmp, fChain, fAnd, fOr, fNot, fBool, boolS, fTest, fIte, fAt, fAtD, fCut, fPart, fNoPart, fOs, fOs0, fFn, fVs, fVs0, fTup, fFresh, fDisp, fTupOf, fListOf, fIsi, fCall, fCallW, fVal, fSlotC, isSet, Pf.rs, Pf.rsS, Pf.rsV, rsAll, rsD, keyD, datS, datsS, setS_s, setS_dv, setS_ol, setS_dat, setS_none, setS_olst, setS_rlst, setS_fdic, setS_odic, gN, gT, gs0, gsC, lenIs, binD, add_ii, subD, mulD, fdivD, modD, cmpD, ordD, isD, isNn, isNi, isNb, isNt, isNl, isiD, at_l, at_t, fn_lenL, fn_lenT, fn_max2, fn_abs, fn_int, fn_intb, intV, seq_l, seq_t, lstV, fApp, fAugD, fAugI, olS, odS, odH, inS, getElem_s]) (by omega) (by omega)
    · rw [rngD_len]; unfold lim; omega
    · exact a1
  unfold Fr at h8
  unfold rd
  simp [s_law_10, evB, evS, evE, evL, evO, evOs, evEs, evT, evTs, evI, evC, evP, evDd, evPs, evWs, evG, evGs, fSeq2, aft, fNext, fRet, fIf, fAsg, fAsgL, fAsgT, fAsgD, fPar, fWv, fWl, fW0, setWs, wiS, fLit, fVar, Pf.slotAt, varS, fBin, fNeg, negD, fCmp, fChain, fAnd, fOr, fNot, fBool, boolS, fTest, fIte, fAt, fAtD, fCut, fPart, fNoPart, fOs, fOs0, fFn, fVs, fVs0, fTup, fFresh, fDisp, fTupOf, fListOf, fIsi, fCall, fCallW, fVal, fSlotC, isSet, Pf.rs, Pf.rsS, Pf.rsV, rsAll, rsD, keyD, datS, datsS, setS_s, setS_dv, setS_ol, setS_dat, setS_none, setS_olst, setS_rlst, setS_fdic, setS_odic, gN, gT, gs0, gsC, lenIs, binD, add_ii, subD, mulD, fdivD, modD, cmpD, ordD, isD, isNn, isNi, isNb, isNt, isNl, isiD, at_l, at_t, fn_lenL, fn_lenT, fn_max2, fn_abs, fn_int, fn_intb, intV, seq_l, seq_t, lstV, fApp, fAugD, fAugI, olS, odS, odH, inS, getElem_s, hs]
  simp [evB, evS, evE, evL, evO, evOs, evEs, evT, evTs, evI, evC, evP, evDd, evPs, evWs, evG, evGs, fSeq2, aft, fNext, fRet, fIf, fAsg, fAsgL, fAsgT, fAsgD, fPar, fWv, fWl, fW0, setWs, wiS, fLit, fVar, Pf.slotAt, varS, fBin, fNeg, negD, fCmp, fChain, fAnd, fOr, fNot, fBool, boolS, fTest, fIte, fAt, fAtD, fCut, fPart, fNoPart, fOs, fOs0, fFn, fVs, fVs0, fTup, fFresh, fDisp, fTupOf, fListOf, fIsi, fCall, fCallW, fVal, fSlotC, isSet, Pf.rs, Pf.rsS, Pf.rsV, rsAll, rsD, keyD, datS, datsS, setS_s, setS_dv, setS_ol, setS_dat, setS_none, setS_olst, setS_rlst, setS_fdic, setS_odic, gN, gT, gs0, gsC, lenIs, binD, add_ii, subD, mulD, fdivD, modD, cmpD, ordD, isD, isNn, isNi, isNb, isNt, isNl, isiD, at_l, at_t, fn_lenL, fn_lenT, fn_max2, fn_abs, fn_int, fn_intb, intV, seq_l, seq_t, lstV, fApp, fAugD, fAugI, olS, odS, odH, inS, getElem_s, E, h8]
theorem z11 (h9 : Fr o9) : evS (Y m) s_law_11 (E ns dr (k) o2 o3 o4 o5 o6 o7 o8 o9 o10 o11 o12 o13 o14) = some (.next, (E ns dr (k) o2 o3 o4 o5 o6 o7 o8 (some (.olst [])) o10 o11 o12 o13 o14)) := by
  have l0 : (0 : Nat) ≤ lim := by decide
  unfold Fr at h9
  simp [s_law_11, evB, evS, evE, evL, evO, evOs, evEs, evT, evTs, evI, evC, evP, evDd, evPs, evWs, evG, evGs, fSeq2, aft, fNext, fRet, fIf, fAsg, fAsgL, fAsgT, fAsgD, fPar, fWv, fWl, fW0, setWs, wiS, fLit, fVar, Pf.slotAt, varS, fBin, fNeg, negD, fCmp, fChain, fAnd, fOr, fNot, fBool, boolS, fTest, fIte, fAt, fAtD, fCut, fPart, fNoPart, fOs, fOs0, fFn, fVs, fVs0, fTup, fFresh, fDisp, fTupOf, fListOf, fIsi, fCall, fCallW, fVal, fSlotC, isSet, Pf.rs, Pf.rsS, Pf.rsV, rsAll, rsD, keyD, datS, datsS, setS_s, setS_dv, setS_ol, setS_dat, setS_none, setS_olst, setS_rlst, setS_fdic, setS_odic, gN, gT, gs0, gsC, lenIs, binD, add_ii, subD, mulD, fdivD, modD, cmpD, ordD, isD, isNn, isNi, isNb, isNt, isNl, isiD, at_l, at_t, fn_lenL, fn_lenT, fn_max2, fn_abs, fn_int, fn_intb, intV, seq_l, seq_t, lstV, fApp, fAugD, fAugI, olS, odS, odH, inS, getElem_s, E, l0, h9]


end K31

set_option maxHeartbeats 4000000
namespace K31
open PySem L2 Pf
-- slots 2 14
variable {ns dr : List Int} {k : Int} {o2 o3 o4 o5 o6 o7 o8 o9 o10 o11 o12 o13 o14 : Option SV} {m : Nat}
theorem lg_cf (tp : Top) (r : Row) (t : Nat) : cf tp r t = (decide (cnt r t < tm tp t) && lgok tp (r ++ [some t]) (some t)) := by
  unfold cf
  congr 1
  show _ = (match (gaps (r ++ [some t]) t).getLast? with | none => true | some g => gok tp t g)
  rw [gaps_snoc, if_pos rfl]
  cases e : last r t with
  | none =>
    dsimp only
    rw [List.append_nil]
    have : gaps r t = [] := by
      unfold last at e
      unfold gaps
      rw [List.getLast?_eq_none_iff.mp e]
      rfl
    rw [this]
    rfl
  | some q =>
    dsimp only
    rw [List.getLast?_append]
    rfl
theorem z14 (hm : 29 ≤ m) {tp : Top} (ht : tp.length ≤ 3) {r : Row} (hr : r.length ≤ 5) (h4 : Fr o4) (h12 : Fr o12) (h13 : Fr o13) : ∃ o4' o12' o13', Fr o4' ∧ Fr o12' ∧ Fr o13' ∧ evS (Y m) s_law_14 (E ns dr (k) o2 (some (.dat (td tp))) o4 o5 o6 o7 (some (.dat (rd r))) (some (.olst [])) o10 o11 o12 o13 o14) = some (.next, (E ns dr (k) o2 (some (.dat (td tp))) (o4') o5 o6 o7 (some (.dat (rd r))) (some (.olst (nl ((List.range tp.length).filter (cf tp r))))) o10 o11 (o12') (o13') o14)) := by
  have l0 : (0 : Nat) ≤ lim := by decide
  have l1 : (1 : Nat) ≤ lim := by decide
  obtain ⟨en', a1, o4', o12', o13', f4, f12, f13, rfl⟩ := loop_inv (bd := evG (.name 4)) (body := evB (Y m) b_law_3) (P := fun i en => ∃ o4 o12 o13, Fr o4 ∧ Fr o12 ∧ Fr o13 ∧ en = (E ns dr (k) o2 (some (.dat (td tp))) o4 o5 o6 o7 (some (.dat (rd r))) (some (.olst (nl ((List.range i).filter (cf tp r))))) o10 o11 o12 o13 o14)) (rngD 0 tp.length) 0 (E ns dr (k) o2 (some (.dat (td tp))) o4 o5 o6 o7 (some (.dat (rd r))) (some (.olst [])) o10 o11 o12 o13 o14) ⟨o4, o12, o13, h4, h12, h13, rfl⟩ fun t d en hd hP => by
    obtain ⟨o4, o12, o13, h4, h12, h13, rfl⟩ := hP
    obtain ⟨htl, rfl⟩ := rngD_at hd
    rw [Nat.zero_add, Int.zero_add]
    have hlen : (nl ((List.range t).filter (cf tp r))).length < lim := by
      rw [nl_len]
      have := List.length_filter_le (cf tp r) (List.range t)
      rw [List.length_range] at this
      unfold lim; omega
    have hnext : nl ((List.range (t + 1)).filter (cf tp r)) = nl ((List.range t).filter (cf tp r)) ++ if cf tp r t = true then [.int (t : Int)] else [] := by
      unfold nl
      rw [List.range_succ, List.filter_append, List.map_append]
      congr 1
      cases hk : cf tp r t <;> simp [List.filter_cons, hk]
    rw [hnext]
    generalize nl ((List.range t).filter (cf tp r)) = ab at *
    have ha := add_rd (r := r) (by omega) (some t)
    have c1 := lgaps_lv (lvm := m) (by omega) (r := r ++ [some t]) (by rw [List.length_append, List.length_singleton]; omega) t
    have c2 := lmany_lv (lvm := m) (by omega) (r := r) (by omega) t
    have at1' := atD_td htl
    rw [lg_cf]
    have hT : od (some t) = .int (t : Int) := rfl
    rw [hT] at ha
    obtain ⟨q, hq⟩ : ∃ q, q = r ++ [some t] := ⟨_, rfl⟩
    rw [← hq] at ha c1 ⊢
    have g4 : setS 4 (.dat (.int (t : Int))) (E ns dr (k) o2 (some (.dat (td tp))) o4 o5 o6 o7 (some (.dat (rd r))) (some (.olst ab)) o10 o11 o12 o13 o14) = some (E ns dr (k) o2 (some (.dat (td tp))) (some (.dat (.int (t : Int)))) o5 o6 o7 (some (.dat (rd r))) (some (.olst ab)) o10 o11 o12 o13 o14) := by
      unfold Fr at h4
      simp [E, setS_s, h4]
    have hcl := cut_last (gaps q t)
    have hll : (il (gaps q t)).length = (gaps q t).length := by unfold il; rw [List.length_map]
    obtain ⟨en0, hen0⟩ : ∃ en0, en0 = (E ns dr (k) o2 (some (.dat (td tp))) (some (.dat (.int (t : Int)))) o5 o6 o7 (some (.dat (rd r))) (some (.olst ab)) o10 o11 (some (.dat (.list (il (gaps q t))))) (some (.dat (.int ((cnt r t : Nat) : Int)))) o14) := ⟨_, rfl⟩
    have s12 : evS (Y m) s_law_12 (E ns dr (k) o2 (some (.dat (td tp))) (some (.dat (.int (t : Int)))) o5 o6 o7 (some (.dat (rd r))) (some (.olst ab)) o10 o11 o12 o13 o14) = some (.next, en0) := by
      rw [hen0]
      unfold Fr at h12 h13
      generalize il (gaps q t) = gs at *
      generalize rd q = Q at *
      simp [s_law_12, evB, evS, evE, evL, evO, evOs, evEs, evT, evTs, evI, evC, evP, evDd, evPs, evWs, evG, evGs, fSeq2, aft, fNext, fRet, fIf, fAsg, fAsgL, fAsgT, fAsgD, fPar, fWv, fWl, fW0, setWs, wiS, fLit, fVar, Pf.slotAt, varS, fBin, fNeg, negD, fCmp, fChain, fAnd, fOr, fNot, fBool, boolS, fTest, fIte, fAt, fAtD, fCut, fPart, fNoPart, fOs, fOs0, fFn, fVs, fVs0, fTup, fFresh, fDisp, fTupOf, fListOf, fIsi, fCall, fCallW, fVal, fSlotC, isSet, Pf.rs, Pf.rsS, Pf.rsV, rsAll, rsD, keyD, datS, datsS, setS_s, setS_dv, setS_ol, setS_dat, setS_none, setS_olst, setS_rlst, setS_fdic, setS_odic, gN, gT, gs0, gsC, lenIs, binD, add_ii, subD, mulD, fdivD, modD, cmpD, ordD, isD, isNn, isNi, isNb, isNt, isNl, isiD, at_l, at_t, fn_lenL, fn_lenT, fn_max2, fn_abs, fn_int, fn_intb, intV, seq_l, seq_t, lstV, fApp, fAugD, fAugI, olS, odS, odH, inS, getElem_s, E, l1, ha, np__law_gaps, np__law_many, c1, c2, h12, h13]
    have hcomp2 := comp_map (vs := [17]) (bd := evG (.name 17)) (cond := evC (Y m) c_law_3c) (elt := evE (Y m) c_law_3e) (f := PyData.int) (g := PyData.int) (p := fun g => !(gok tp t g)) (en := en0) (gaps q t).getLast?.toList fun g hg => by
      refine ⟨en0.set 17 (some (.dat (.int g))), en0.set 17 (some (.dat (.int g))), by rw [hen0]; rfl, ?_, ?_⟩
      · rw [hen0]
        unfold gok
        generalize il (gaps q t) = gs at *
        by_cases y1 : (le' tp t : Int) ≤ g
        · by_cases y2 : g ≤ (mo tp t : Int)
          · simp [c_law_3c, evB, evS, evE, evL, evO, evOs, evEs, evT, evTs, evI, evC, evP, evDd, evPs, evWs, evG, evGs, fSeq2, aft, fNext, fRet, fIf, fAsg, fAsgL, fAsgT, fAsgD, fPar, fWv, fWl, fW0, setWs, wiS, fLit, fVar, Pf.slotAt, varS, fBin, fNeg, negD, fCmp, fChain, fAnd, fOr, fNot, fBool, boolS, fTest, fIte, fAt, fAtD, fCut, fPart, fNoPart, fOs, fOs0, fFn, fVs, fVs0, fTup, fFresh, fDisp, fTupOf, fListOf, fIsi, fCall, fCallW, fVal, fSlotC, isSet, Pf.rs, Pf.rsS, Pf.rsV, rsAll, rsD, keyD, datS, datsS, setS_s, setS_dv, setS_ol, setS_dat, setS_none, setS_olst, setS_rlst, setS_fdic, setS_odic, gN, gT, gs0, gsC, lenIs, binD, add_ii, subD, mulD, fdivD, modD, cmpD, ordD, isD, isNn, isNi, isNb, isNt, isNl, isiD, at_l, at_t, fn_lenL, fn_lenT, fn_max2, fn_abs, fn_int, fn_intb, intV, seq_l, seq_t, lstV, fApp, fAugD, fAugI, olS, odS, odH, inS, getElem_s, E, at1', at1, atI2, y1, y2]
          · simp [c_law_3c, evB, evS, evE, evL, evO, evOs, evEs, evT, evTs, evI, evC, evP, evDd, evPs, evWs, evG, evGs, fSeq2, aft, fNext, fRet, fIf, fAsg, fAsgL, fAsgT, fAsgD, fPar, fWv, fWl, fW0, setWs, wiS, fLit, fVar, Pf.slotAt, varS, fBin, fNeg, negD, fCmp, fChain, fAnd, fOr, fNot, fBool, boolS, fTest, fIte, fAt, fAtD, fCut, fPart, fNoPart, fOs, fOs0, fFn, fVs, fVs0, fTup, fFresh, fDisp, fTupOf, fListOf, fIsi, fCall, fCallW, fVal, fSlotC, isSet, Pf.rs, Pf.rsS, Pf.rsV, rsAll, rsD, keyD, datS, datsS, setS_s, setS_dv, setS_ol, setS_dat, setS_none, setS_olst, setS_rlst, setS_fdic, setS_odic, gN, gT, gs0, gsC, lenIs, binD, add_ii, subD, mulD, fdivD, modD, cmpD, ordD, isD, isNn, isNi, isNb, isNt, isNl, isiD, at_l, at_t, fn_lenL, fn_lenT, fn_max2, fn_abs, fn_int, fn_intb, intV, seq_l, seq_t, lstV, fApp, fAugD, fAugI, olS, odS, odH, inS, getElem_s, E, at1', at1, atI2, y1, y2]
        · simp [c_law_3c, evB, evS, evE, evL, evO, evOs, evEs, evT, evTs, evI, evC, evP, evDd, evPs, evWs, evG, evGs, fSeq2, aft, fNext, fRet, fIf, fAsg, fAsgL, fAsgT, fAsgD, fPar, fWv, fWl, fW0, setWs, wiS, fLit, fVar, Pf.slotAt, varS, fBin, fNeg, negD, fCmp, fChain, fAnd, fOr, fNot, fBool, boolS, fTest, fIte, fAt, fAtD, fCut, fPart, fNoPart, fOs, fOs0, fFn, fVs, fVs0, fTup, fFresh, fDisp, fTupOf, fListOf, fIsi, fCall, fCallW, fVal, fSlotC, isSet, Pf.rs, Pf.rsS, Pf.rsV, rsAll, rsD, keyD, datS, datsS, setS_s, setS_dv, setS_ol, setS_dat, setS_none, setS_olst, setS_rlst, setS_fdic, setS_odic, gN, gT, gs0, gsC, lenIs, binD, add_ii, subD, mulD, fdivD, modD, cmpD, ordD, isD, isNn, isNi, isNb, isNt, isNl, isiD, at_l, at_t, fn_lenL, fn_lenT, fn_max2, fn_abs, fn_int, fn_intb, intV, seq_l, seq_t, lstV, fApp, fAugD, fAugI, olS, odS, odH, inS, getElem_s, E, at1', at1, atI2, y1]
      · have w1 : wipeE (en0.set 17 (some (.dat (.int g)))) [17] = en0 := by rw [hen0]; rfl
        split
        · exact ⟨en0.set 17 (some (.dat (.int g))), by rw [hen0]; generalize il (gaps q t) = gs; simp [c_law_3e, evB, evS, evE, evL, evO, evOs, evEs, evT, evTs, evI, evC, evP, evDd, evPs, evWs, evG, evGs, fSeq2, aft, fNext, fRet, fIf, fAsg, fAsgL, fAsgT, fAsgD, fPar, fWv, fWl, fW0, setWs, wiS, fLit, fVar, Pf.slotAt, varS, fBin, fNeg, negD, fCmp, fChain, fAnd, fOr, fNot, fBool, boolS, fTest, fIte, fAt, fAtD, fCut, fPart, fNoPart, fOs, fOs0, fFn, fVs, fVs0, fTup, fFresh, fDisp, fTupOf, fListOf, fIsi, fCall, fCallW, fVal, fSlotC, isSet, Pf.rs, Pf.rsS, Pf.rsV, rsAll, rsD, keyD, datS, datsS, setS_s, setS_dv, setS_ol, setS_dat, setS_none, setS_olst, setS_rlst, setS_fdic, setS_odic, gN, gT, gs0, gsC, lenIs, binD, add_ii, subD, mulD, fdivD, modD, cmpD, ordD, isD, isNn, isNi, isNb, isNt, isNl, isiD, at_l, at_t, fn_lenL, fn_lenT, fn_max2, fn_abs, fn_int, fn_intb, intV, seq_l, seq_t, lstV, fApp, fAugD, fAugI, olS, odS, odH, inS, getElem_s, E], w1⟩
        · exact w1
    have hc2 : evL (Y m) c_law_3 en0 = some (((gaps q t).getLast?.toList.filter fun g => !(gok tp t g)).map PyData.int, en0) := by
      have w0 : wipeE en0 [17] = en0 := by rw [hen0]; rfl
      have w2 : unwipe en0 en0 [17] = en0 := by rw [hen0]; rfl
      unfold c_law_3
      refine (comp_ev (ds := il (gaps q t).getLast?.toList) (en1 := en0) (en2 := en0) (r := ((gaps q t).getLast?.toList.filter fun g => !(gok tp t g)).map PyData.int) ?_ ?_ ?_).trans (by show some (_, unwipe en0 en0 [17]) = _; rw [w2])
      · unfold c_law_3i
        rw [evI]; unfold fSeq
        rw [hen0]
        generalize il (gaps q t) = gs at *
        generalize il (gaps q t).getLast?.toList = ls at *
        simp [evB, evS, evE, evL, evO, evOs, evEs, evT, evTs, evI, evC, evP, evDd, evPs, evWs, evG, evGs, fSeq2, aft, fNext, fRet, fIf, fAsg, fAsgL, fAsgT, fAsgD, fPar, fWv, fWl, fW0, setWs, wiS, fLit, fVar, Pf.slotAt, varS, fBin, fNeg, negD, fCmp, fChain, fAnd, fOr, fNot, fBool, boolS, fTest, fIte, fAt, fAtD, fCut, fPart, fNoPart, fOs, fOs0, fFn, fVs, fVs0, fTup, fFresh, fDisp, fTupOf, fListOf, fIsi, fCall, fCallW, fVal, fSlotC, isSet, Pf.rs, Pf.rsS, Pf.rsV, rsAll, rsD, keyD, datS, datsS, setS_s, setS_dv, setS_ol, setS_dat, setS_none, setS_olst, setS_rlst, setS_fdic, setS_odic, gN, gT, gs0, gsC, lenIs, binD, add_ii, subD, mulD, fdivD, modD, cmpD, ordD, isD, isNn, isNi, isNb, isNt, isNl, isiD, at_l, at_t, fn_lenL, fn_lenT, fn_max2, fn_abs, fn_int, fn_intb, intV, seq_l, seq_t, lstV, fApp, fAugD, fAugI, olS, odS, odH, inS, getElem_s, E]
        rw [hll, hcl]
        rfl
      · unfold il
        rw [List.length_map]
        cases (gaps q t).getLast? with
        | none => exact Nat.zero_le _
        | some _ => exact l1
      · show cLoop [17] _ _ _ _ (wipeE en0 [17]) = _
        rw [w0]; exact hcomp2
    have hb2 := bad_nil (gaps q t).getLast?.toList (gok tp t)
    have hB : (gaps q t).getLast?.toList.all (gok tp t) = lgok tp q (some t) := by
      show _ = (match (gaps q t).getLast? with | none => true | some g => gok tp t g)
      cases (gaps q t).getLast? with
      | none => rfl
      | some g => simp
    rw [hB] at hb2
    generalize ((gaps q t).getLast?.toList.filter fun g => !(gok tp t g)).map PyData.int = bs at *
    generalize lgok tp q (some t) = B at *
    have hcond : evT (Y m) (.and (.cons (.cmp .lt (.slot 13) (.val (.at (.val (.at (.slot 3) (.slot 4))) (.val (.lit (.int 0)))))) (.one (.cmp .eq (.val (.fresh c_law_3)) (.val (.fresh (.disp .nil))))))) en0 = some (decide (cnt r t < tm tp t) && B, en0) := by
      have h1 : evT (Y m) (.cmp .lt (.slot 13) (.val (.at (.val (.at (.slot 3) (.slot 4))) (.val (.lit (.int 0)))))) en0 = some (decide (cnt r t < tm tp t), en0) := by
        have e : decide ((cnt r t : Int) < (tm tp t : Int)) = decide (cnt r t < tm tp t) := decide_eq_decide.mpr (by omega)
        rw [hen0, ← e]
        simp [evB, evS, evE, evL, evO, evOs, evEs, evT, evTs, evI, evC, evP, evDd, evPs, evWs, evG, evGs, fSeq2, aft, fNext, fRet, fIf, fAsg, fAsgL, fAsgT, fAsgD, fPar, fWv, fWl, fW0, setWs, wiS, fLit, fVar, Pf.slotAt, varS, fBin, fNeg, negD, fCmp, fChain, fAnd, fOr, fNot, fBool, boolS, fTest, fIte, fAt, fAtD, fCut, fPart, fNoPart, fOs, fOs0, fFn, fVs, fVs0, fTup, fFresh, fDisp, fTupOf, fListOf, fIsi, fCall, fCallW, fVal, fSlotC, isSet, Pf.rs, Pf.rsS, Pf.rsV, rsAll, rsD, keyD, datS, datsS, setS_s, setS_dv, setS_ol, setS_dat, setS_none, setS_olst, setS_rlst, setS_fdic, setS_odic, gN, gT, gs0, gsC, lenIs, binD, add_ii, subD, mulD, fdivD, modD, cmpD, ordD, isD, isNn, isNi, isNb, isNt, isNl, isiD, at_l, at_t, fn_lenL, fn_lenT, fn_max2, fn_abs, fn_int, fn_intb, intV, seq_l, seq_t, lstV, fApp, fAugD, fAugI, olS, odS, odH, inS, getElem_s, E, at1', at0]
      have h2 : evT (Y m) (.cmp .eq (.val (.fresh c_law_3)) (.val (.fresh (.disp .nil)))) en0 = some (B, en0) := by
        simp [evB, evS, evE, evL, evO, evOs, evEs, evT, evTs, evI, evC, evP, evDd, evPs, evWs, evG, evGs, fSeq2, aft, fNext, fRet, fIf, fAsg, fAsgL, fAsgT, fAsgD, fPar, fWv, fWl, fW0, setWs, wiS, fLit, fVar, Pf.slotAt, varS, fBin, fNeg, negD, fCmp, fChain, fAnd, fOr, fNot, fBool, boolS, fTest, fIte, fAt, fAtD, fCut, fPart, fNoPart, fOs, fOs0, fFn, fVs, fVs0, fTup, fFresh, fDisp, fTupOf, fListOf, fIsi, fCall, fCallW, fVal, fSlotC, isSet, Pf.rs, Pf.rsS, Pf.rsV, rsAll, rsD, keyD, datS, datsS, setS_s, setS_dv, setS_ol, setS_dat, setS_none, setS_olst, setS_rlst, setS_fdic, setS_odic, gN, gT, gs0, gsC, lenIs, binD, add_ii, subD, mulD, fdivD, modD, cmpD, ordD, isD, isNn, isNi, isNb, isNt, isNl, isiD, at_l, at_t, fn_lenL, fn_lenT, fn_max2, fn_abs, fn_int, fn_intb, intV, seq_l, seq_t, lstV, fApp, fAugD, fAugI, olS, odS, odH, inS, getElem_s, hc2, l0, hb2]
      rw [evT, evTs, if_pos rfl, evTs]
      unfold fAnd
      rw [h1, Option.bind_some]
      cases decide (cnt r t < tm tp t) with
      | true => simp [h2]
      | false => rfl
    refine ⟨_, (E ns dr (k) o2 (some (.dat (td tp))) (some (.dat (.int (t : Int)))) o5 o6 o7 (some (.dat (rd r))) (some (.olst (ab ++ if (decide (cnt r t < tm tp t) && B) = true then [.int (t : Int)] else []))) o10 o11 (some (.dat (.list (il (gaps q t))))) (some (.dat (.int ((cnt r t : Nat) : Int)))) o14), g4, B_next s12 (B_next ?_ rfl), _, _, _, Fr_dat _, Fr_dat _, Fr_dat _, rfl⟩
    unfold s_law_13
    rw [evS]
    unfold fIf
    rw [hcond, Option.bind_some]
    generalize (decide (cnt r t < tm tp t) && B) = b
    rw [hen0]
    generalize il (gaps q t) = gs
    cases b with
    | true => simp [evB, evS, evE, evL, evO, evOs, evEs, evT, evTs, evI, evC, evP, evDd, evPs, evWs, evG, evGs, fSeq2, aft, fNext, fRet, fIf, fAsg, fAsgL, fAsgT, fAsgD, fPar, fWv, fWl, fW0, setWs, wiS, fLit, fVar, Pf.slotAt, varS, fBin, fNeg, negD, fCmp, fChain, fAnd, fOr, fNot, fBool, boolS, fTest, fIte, fAt, fAtD, fCut, fPart, fNoPart, fOs, fOs0, fFn, fVs, fVs0, fTup, fFresh, fDisp, fTupOf, fListOf, fIsi, fCall, fCallW, fVal, fSlotC, isSet, Pf.rs, Pf.rsS, Pf.rsV, rsAll, rsD, keyD, datS, datsS, setS_s, setS_dv, setS_ol, setS_dat, setS_none, setS_olst, setS_rlst, setS_fdic, setS_odic, gN, gT, gs0, gsC, lenIs, binD, add_ii, subD, mulD, fdivD, modD, cmpD, ordD, isD, isNn, isNi, isNb, isNt, isNl, isiD, at_l, at_t, fn_lenL, fn_lenT, fn_max2, fn_abs, fn_int, fn_intb, intV, seq_l, seq_t, lstV, fApp, fAugD, fAugI, olS, odS, odH, inS, getElem_s, E, hlen]
    | false => simp [evB, evS, evE, evL, evO, evOs, evEs, evT, evTs, evI, evC, evP, evDd, evPs, evWs, evG, evGs, fSeq2, aft, fNext, fRet, fIf, fAsg, fAsgL, fAsgT, fAsgD, fPar, fWv, fWl, fW0, setWs, wiS, fLit, fVar, Pf.slotAt, varS, fBin, fNeg, negD, fCmp, fChain, fAnd, fOr, fNot, fBool, boolS, fTest, fIte, fAt, fAtD, fCut, fPart, fNoPart, fOs, fOs0, fFn, fVs, fVs0, fTup, fFresh, fDisp, fTupOf, fListOf, fIsi, fCall, fCallW, fVal, fSlotC, isSet, Pf.rs, Pf.rsS, Pf.rsV, rsAll, rsD, keyD, datS, datsS, setS_s, setS_dv, setS_ol, setS_dat, setS_none, setS_olst, setS_rlst, setS_fdic, setS_odic, gN, gT, gs0, gsC, lenIs, binD, add_ii, subD, mulD, fdivD, modD, cmpD, ordD, isD, isNn, isNi, isNb, isNt, isNl, isiD, at_l, at_t, fn_lenL, fn_lenT, fn_max2, fn_abs, fn_int, fn_intb, intV, seq_l, seq_t, lstV, fApp, fAugD, fAugI, olS, odS, odH, inS, getElem_s, E]
  rw [rngD_len, Nat.zero_add] at a1
  refine ⟨o4', o12', o13', f4, f12, f13, ?_⟩
  unfold s_law_14
  refine for_next (ds := rngD 0 tp.length) (en1 := (E ns dr (k) o2 (some (.dat (td tp))) o4 o5 o6 o7 (some (.dat (rd r))) (some (.olst [])) o10 o11 o12 o13 o14)) ?_ a1
  exact rng1_ev (os := [.val (.dat (.int (tp.length : Int)))]) (m := (tp.length : Int)) (by simp [evB, evS, evE, evL, evO, evOs, evEs, evT, evTs, evI, evC, evP, evDd, evPs, evWs, evG, evGs, fSeq2, aft, fNext, fRet, fIf, fAsg, fAsgL, fAsgT, fAsgD, fPar, fWv, fWl, fW0, setWs, wiS, fLit, fVar, Pf.slotAt, varS, fBin, fNeg, negD, fCmp, fChain, fAnd, fOr, fNot, fBool, boolS, fTest, fIte, fAt, fAtD, fCut, fPart, fNoPart, fOs, fOs0, fFn, fVs, fVs0, fTup, fFresh, fDisp, fTupOf, fListOf, fIsi, fCall, fCallW, fVal, fSlotC, isSet, Pf.rs, Pf.rsS, Pf.rsV, rsAll, rsD, keyD, datS, datsS, setS_s, setS_dv, setS_ol, setS_dat, setS_none, setS_olst, setS_rlst, setS_fdic, setS_odic, gN, gT, gs0, gsC, lenIs, binD, add_ii, subD, mulD, fdivD, modD, cmpD, ordD, isD, isNn, isNi, isNb, isNt, isNl, isiD, at_l, at_t, fn_lenL, fn_lenT, fn_max2, fn_abs, fn_int, fn_intb, intV, seq_l, seq_t, lstV, fApp, fAugD, fAugI, olS, odS, odH, inS, getElem_s, E, fn_len_td]) (by simp [evB, evS, evE, evL, evO, evOs, evEs, evT, evTs, evI, evC, evP, evDd, evPs, evWs, evG, evGs, fSeq2, aft, fNext, fRet, fIf, fAsg, fAsgL, fAsgT, fAsgD, fPar, fWv, fWl, fW0, setWs, wiS, fLit, fVar, Pf.slotAt, varS, fBin, fNeg, negD, fCmp, fChain, fAnd, fOr, fNot, fBool, boolS, fTest, fIte, fAt, fAtD, fCut, fPart, fNoPart, fOs, fOs0, fFn, fVs, fVs0, fTup, fFresh, fDisp, fTupOf, fListOf, fIsi, fCall, fCallW, fVal, fSlotC, isSet, Pf.rs, Pf.rsS, Pf.rsV, rsAll, rsD, keyD, datS, datsS, setS_s, setS_dv, setS_ol, setS_dat, setS_none, setS_olst, setS_rlst, setS_fdic, setS_odic, gN, gT, gs0, gsC, lenIs, binD, add_ii, subD, mulD, fdivD, modD, cmpD, ordD, isD, isNn, isNi, isNb, isNt, isNl, isiD, at_l, at_t, fn_lenL, fn_lenT, fn_max2, fn_abs, fn_int, fn_intb, intV, seq_l, seq_t, lstV, fApp, fAugD, fAugI, olS, odS, odH, inS, getElem_s]) rfl (by omega)
theorem z15 (hm : 29 ≤ m) {tp : Top} (ht : tp.length ≤ 3) {r : Row} (hr : r.length ≤ 5) : evS (Y m) s_law_15 (E ns dr (k) o2 (some (.dat (td tp))) o4 o5 o6 o7 (some (.dat (rd r))) (some (.olst (nl ((List.range tp.length).filter (cf tp r))))) o10 o11 o12 o13 o14) = some (.next, (E ns dr (k) o2 (some (.dat (td tp))) o4 o5 o6 o7 (some (.dat (rd r))) (some (.olst (nl ((List.range tp.length).filter (cf tp r))))) o10 o11 o12 o13 o14)) := by
  have c1 := could_follow_lv (lvm := m) (by omega) (r := r) (by omega) ht
  have c2 : ((Y m).f 15).2 [.dat (.tuple (nl ((List.range tp.length).filter (cf tp r)))), .dat (.tuple (nl ((List.range tp.length).filter (cf tp r))))] = _ := same_lv 1 (by omega) (sg_tup (by
    rw [nl_len]
    have := List.length_filter_le (cf tp r) (List.range tp.length)
    rw [List.length_range] at this
    unfold lim; omega) fun d hd => by
    obtain ⟨i, _, rfl⟩ := List.mem_map.mp hd
    exact sg_int 0 _)
  generalize nl ((List.range tp.length).filter (cf tp r)) = xs at *
  simp [s_law_15, evB, evS, evE, evL, evO, evOs, evEs, evT, evTs, evI, evC, evP, evDd, evPs, evWs, evG, evGs, fSeq2, aft, fNext, fRet, fIf, fAsg, fAsgL, fAsgT, fAsgD, fPar, fWv, fWl, fW0, setWs, wiS, fLit, fVar, Pf.slotAt, varS, fBin, fNeg, negD, fCmp, fChain, fAnd, fOr, fNot, fBool, boolS, fTest, fIte, fAt, fAtD, fCut, fPart, fNoPart, fOs, fOs0, fFn, fVs, fVs0, fTup, fFresh, fDisp, fTupOf, fListOf, fIsi, fCall, fCallW, fVal, fSlotC, isSet, Pf.rs, Pf.rsS, Pf.rsV, rsAll, rsD, keyD, datS, datsS, setS_s, setS_dv, setS_ol, setS_dat, setS_none, setS_olst, setS_rlst, setS_fdic, setS_odic, gN, gT, gs0, gsC, lenIs, binD, add_ii, subD, mulD, fdivD, modD, cmpD, ordD, isD, isNn, isNi, isNb, isNt, isNl, isiD, at_l, at_t, fn_lenL, fn_lenT, fn_max2, fn_abs, fn_int, fn_intb, intV, seq_l, seq_t, lstV, fApp, fAugD, fAugI, olS, odS, odH, inS, getElem_s, E, np_could_follow, np__law_same, c1, c2]
theorem z17 (hm : 29 ≤ m) {tp : Top} (ht : tp.length ≤ 3) {r : Row} (hr : r.length ≤ 5) (h4 : Fr o4) : ∃ o4', Fr o4' ∧ evS (Y m) s_law_17 (E ns dr (k) o2 (some (.dat (td tp))) o4 o5 o6 o7 (some (.dat (rd r))) o9 o10 o11 o12 o13 o14) = some (.next, (E ns dr (k) o2 (some (.dat (td tp))) (o4') o5 o6 o7 (some (.dat (rd r))) o9 o10 o11 o12 o13 o14)) := by
  obtain ⟨en', a1, o4', f4, rfl⟩ := loop_inv (bd := evG (.name 4)) (body := evB (Y m) b_law_4) (P := fun i en => ∃ o4, Fr o4 ∧ en = (E ns dr (k) o2 (some (.dat (td tp))) o4 o5 o6 o7 (some (.dat (rd r))) o9 o10 o11 o12 o13 o14)) (rngD 0 tp.length) 0 (E ns dr (k) o2 (some (.dat (td tp))) o4 o5 o6 o7 (some (.dat (rd r))) o9 o10 o11 o12 o13 o14) ⟨o4, h4, rfl⟩ fun t d en hd hP => by
    obtain ⟨o4, h4, rfl⟩ := hP
    obtain ⟨htl, rfl⟩ := rngD_at hd
    rw [Int.zero_add]
    have c1 := lgaps_lv (lvm := m) (by omega) (r := r) (by omega) t
    have c2 := gaps_of_lv (lvm := m) (by omega) (r := r) (by omega) t
    have c3 : ((Y m).f 15).2 [.dat (.tuple (il (gaps r t))), .dat (.tuple (il (gaps r t)))] = _ := same_lv 1 (by omega) (sg_tup (by
      unfold il gaps
      rw [List.length_map, dif_len]
      have := pos_len r t
      unfold lim; omega) fun d hd => by
      obtain ⟨i, _, rfl⟩ := List.mem_map.mp hd
      exact sg_int 0 _)
    have g4 : setS 4 (.dat (.int (t : Int))) (E ns dr (k) o2 (some (.dat (td tp))) o4 o5 o6 o7 (some (.dat (rd r))) o9 o10 o11 o12 o13 o14) = some (E ns dr (k) o2 (some (.dat (td tp))) (some (.dat (.int (t : Int)))) o5 o6 o7 (some (.dat (rd r))) o9 o10 o11 o12 o13 o14) := by
      unfold Fr at h4
      simp [E, setS_s, h4]
    refine ⟨_, (E ns dr (k) o2 (some (.dat (td tp))) (some (.dat (.int (t : Int)))) o5 o6 o7 (some (.dat (rd r))) o9 o10 o11 o12 o13 o14), g4, B_next ?_ rfl, _, Fr_dat _, rfl⟩
    generalize il (gaps r t) = gs at *
    simp [s_law_16, evB, evS, evE, evL, evO, evOs, evEs, evT, evTs, evI, evC, evP, evDd, evPs, evWs, evG, evGs, fSeq2, aft, fNext, fRet, fIf, fAsg, fAsgL, fAsgT, fAsgD, fPar, fWv, fWl, fW0, setWs, wiS, fLit, fVar, Pf.slotAt, varS, fBin, fNeg, negD, fCmp, fChain, fAnd, fOr, fNot, fBool, boolS, fTest, fIte, fAt, fAtD, fCut, fPart, fNoPart, fOs, fOs0, fFn, fVs, fVs0, fTup, fFresh, fDisp, fTupOf, fListOf, fIsi, fCall, fCallW, fVal, fSlotC, isSet, Pf.rs, Pf.rsS, Pf.rsV, rsAll, rsD, keyD, datS, datsS, setS_s, setS_dv, setS_ol, setS_dat, setS_none, setS_olst, setS_rlst, setS_fdic, setS_odic, gN, gT, gs0, gsC, lenIs, binD, add_ii, subD, mulD, fdivD, modD, cmpD, ordD, isD, isNn, isNi, isNb, isNt, isNl, isiD, at_l, at_t, fn_lenL, fn_lenT, fn_max2, fn_abs, fn_int, fn_intb, intV, seq_l, seq_t, lstV, fApp, fAugD, fAugI, olS, odS, odH, inS, getElem_s, E, np_gaps_of, np__law_gaps, np__law_same, c1, c2, c3]
  refine ⟨o4', f4, ?_⟩
  unfold s_law_17
  refine for_next (ds := rngD 0 tp.length) (en1 := (E ns dr (k) o2 (some (.dat (td tp))) o4 o5 o6 o7 (some (.dat (rd r))) o9 o10 o11 o12 o13 o14)) ?_ a1
  exact rng1_ev (os := [.val (.dat (.int (tp.length : Int)))]) (m := (tp.length : Int)) (by simp [evB, evS, evE, evL, evO, evOs, evEs, evT, evTs, evI, evC, evP, evDd, evPs, evWs, evG, evGs, fSeq2, aft, fNext, fRet, fIf, fAsg, fAsgL, fAsgT, fAsgD, fPar, fWv, fWl, fW0, setWs, wiS, fLit, fVar, Pf.slotAt, varS, fBin, fNeg, negD, fCmp, fChain, fAnd, fOr, fNot, fBool, boolS, fTest, fIte, fAt, fAtD, fCut, fPart, fNoPart, fOs, fOs0, fFn, fVs, fVs0, fTup, fFresh, fDisp, fTupOf, fListOf, fIsi, fCall, fCallW, fVal, fSlotC, isSet, Pf.rs, Pf.rsS, Pf.rsV, rsAll, rsD, keyD, datS, datsS, setS_s, setS_dv, setS_ol, setS_dat, setS_none, setS_olst, setS_rlst, setS_fdic, setS_odic, gN, gT, gs0, gsC, lenIs, binD, add_ii, subD, mulD, fdivD, modD, cmpD, ordD, isD, isNn, isNi, isNb, isNt, isNl, isiD, at_l, at_t, fn_lenL, fn_lenT, fn_max2, fn_abs, fn_int, fn_intb, intV, seq_l, seq_t, lstV, fApp, fAugD, fAugI, olS, odS, odH, inS, getElem_s, E, fn_len_td]) (by simp [evB, evS, evE, evL, evO, evOs, evEs, evT, evTs, evI, evC, evP, evDd, evPs, evWs, evG, evGs, fSeq2, aft, fNext, fRet, fIf, fAsg, fAsgL, fAsgT, fAsgD, fPar, fWv, fWl, fW0, setWs, wiS, fLit, fVar, Pf.slotAt, varS, fBin, fNeg, negD, fCmp, fChain, fAnd, fOr, fNot, fBool, boolS, fTest, fIte, fAt, fAtD, fCut, fPart, fNoPart, fOs, fOs0, fFn, fVs, fVs0, fTup, fFresh, fDisp, fTupOf, fListOf, fIsi, fCall, fCallW, fVal, fSlotC, isSet, Pf.rs, Pf.rsS, Pf.rsV, rsAll, rsD, keyD, datS, datsS, setS_s, setS_dv, setS_ol, setS_dat, setS_none, setS_olst, setS_rlst, setS_fdic, setS_odic, gN, gT, gs0, gsC, lenIs, binD, add_ii, subD, mulD, fdivD, modD, cmpD, ordD, isD, isNn, isNi, isNb, isNt, isNl, isiD, at_l, at_t, fn_lenL, fn_lenT, fn_max2, fn_abs, fn_int, fn_intb, intV, seq_l, seq_t, lstV, fApp, fAugD, fAugI, olS, odS, odH, inS, getElem_s]) rfl (by omega)
theorem z21 (hm : 29 ≤ m) (hk : 0 ≤ k) {tp : Top} (ht : tp.length ≤ 3) {p : Nat} (hp : p ≤ 5) {r : Row} (hr : r.length ≤ 4) (h10 : Fr o10) (h14 : Fr o14) : ∃ (k' : Int) (o10' o14' : Option SV), 0 ≤ k' ∧ Fr o10' ∧ Fr o14' ∧ evS (Y m) s_law_21 (E ns dr (k) o2 (some (.dat (td tp))) o4 (some (.dat (.int (p : Int)))) (some (.dat (ro (fstR tp p)))) o7 (some (.dat (rd r))) o9 o10 o11 o12 o13 o14) = some (.next, (E ns dr (k') o2 (some (.dat (td tp))) o4 (some (.dat (.int (p : Int)))) (some (.dat (ro (fstR tp p)))) o7 (some (.dat (rd r))) o9 (o10') o11 o12 o13 (o14'))) := by
  obtain ⟨en', a1, k', o10', o14', hk', f10, f14, rfl⟩ := loop_inv (bd := evG (.name 10)) (body := evB (Y m) b_law_5) (P := fun i en => ∃ (k : Int) (o10 o14 : Option SV), 0 ≤ k ∧ Fr o10 ∧ Fr o14 ∧ en = (E ns dr (k) o2 (some (.dat (td tp))) o4 (some (.dat (.int (p : Int)))) (some (.dat (ro (fstR tp p)))) o7 (some (.dat (rd r))) o9 o10 o11 o12 o13 o14)) (rngD 0 4) 0 (E ns dr (k) o2 (some (.dat (td tp))) o4 (some (.dat (.int (p : Int)))) (some (.dat (ro (fstR tp p)))) o7 (some (.dat (rd r))) o9 o10 o11 o12 o13 o14) ⟨k, o10, o14, hk, h10, h14, rfl⟩ fun j d en hd hP => by
    obtain ⟨k, o10, o14, hk, h10, h14, rfl⟩ := hP
    obtain ⟨hj, rfl⟩ := rngD_at hd
    rw [Int.zero_add]
    have g10 : setS 10 (.dat (.int (j : Int))) (E ns dr (k) o2 (some (.dat (td tp))) o4 (some (.dat (.int (p : Int)))) (some (.dat (ro (fstR tp p)))) o7 (some (.dat (rd r))) o9 o10 o11 o12 o13 o14) = some (E ns dr (k) o2 (some (.dat (td tp))) o4 (some (.dat (.int (p : Int)))) (some (.dat (ro (fstR tp p)))) o7 (some (.dat (rd r))) o9 (some (.dat (.int (j : Int)))) o11 o12 o13 o14) := by
      unfold Fr at h10
      simp [E, setS_s, h10]
    have hn := isN_ro (fstR tp p)
    have e0 := eqD_int (j : Int) 0
    obtain ⟨r', hr', s18⟩ : ∃ r' : Row, r'.length ≤ 5 ∧ evS (Y m) s_law_18 (E ns dr (k) o2 (some (.dat (td tp))) o4 (some (.dat (.int (p : Int)))) (some (.dat (ro (fstR tp p)))) o7 (some (.dat (rd r))) o9 (some (.dat (.int (j : Int)))) o11 o12 o13 o14) = some (.next, (E ns dr (k) o2 (some (.dat (td tp))) o4 (some (.dat (.int (p : Int)))) (some (.dat (ro (fstR tp p)))) o7 (some (.dat (rd r))) o9 (some (.dat (.int (j : Int)))) o11 o12 o13 (some (.dat (rd r'))))) := by
      unfold Fr at h14
      by_cases y : (j : Int) = 0
      · rw [decide_eq_true y] at e0
        cases hf : fstR tp p with
        | none =>
          rw [hf] at hn
          refine ⟨r, by omega, ?_⟩
          generalize rd r = R at *
          generalize ro none = X at *
          simp at hn
          simp [s_law_18, evB, evS, evE, evL, evO, evOs, evEs, evT, evTs, evI, evC, evP, evDd, evPs, evWs, evG, evGs, fSeq2, aft, fNext, fRet, fIf, fAsg, fAsgL, fAsgT, fAsgD, fPar, fWv, fWl, fW0, setWs, wiS, fLit, fVar, Pf.slotAt, varS, fBin, fNeg, negD, fCmp, fChain, fAnd, fOr, fNot, fBool, boolS, fTest, fIte, fAt, fAtD, fCut, fPart, fNoPart, fOs, fOs0, fFn, fVs, fVs0, fTup, fFresh, fDisp, fTupOf, fListOf, fIsi, fCall, fCallW, fVal, fSlotC, isSet, Pf.rs, Pf.rsS, Pf.rsV, rsAll, rsD, keyD, datS, datsS, setS_s, setS_dv, setS_ol, setS_dat, setS_none, setS_olst, setS_rlst, setS_fdic, setS_odic, gN, gT, gs0, gsC, lenIs, binD, add_ii, subD, mulD, fdivD, modD, cmpD, ordD, isD, isNn, isNi, isNb, isNt, isNl, isiD, at_l, at_t, fn_lenL, fn_lenT, fn_max2, fn_abs, fn_int, fn_intb, intV, seq_l, seq_t, lstV, fApp, fAugD, fAugI, olS, odS, odH, inS, getElem_s, E, e0, hn, h14]
        | some r1 =>
          rw [hf] at hn
          have h1 := (fst_in hf).1
          refine ⟨r1, by omega, ?_⟩
          have e : ro (some r1) = rd r1 := rfl
          rw [e] at hn ⊢
          generalize rd r = R at *
          generalize rd r1 = X at *
          simp at hn
          simp [s_law_18, evB, evS, evE, evL, evO, evOs, evEs, evT, evTs, evI, evC, evP, evDd, evPs, evWs, evG, evGs, fSeq2, aft, fNext, fRet, fIf, fAsg, fAsgL, fAsgT, fAsgD, fPar, fWv, fWl, fW0, setWs, wiS, fLit, fVar, Pf.slotAt, varS, fBin, fNeg, negD, fCmp, fChain, fAnd, fOr, fNot, fBool, boolS, fTest, fIte, fAt, fAtD, fCut, fPart, fNoPart, fOs, fOs0, fFn, fVs, fVs0, fTup, fFresh, fDisp, fTupOf, fListOf, fIsi, fCall, fCallW, fVal, fSlotC, isSet, Pf.rs, Pf.rsS, Pf.rsV, rsAll, rsD, keyD, datS, datsS, setS_s, setS_dv, setS_ol, setS_dat, setS_none, setS_olst, setS_rlst, setS_fdic, setS_odic, gN, gT, gs0, gsC, lenIs, binD, add_ii, subD, mulD, fdivD, modD, cmpD, ordD, isD, isNn, isNi, isNb, isNt, isNl, isiD, at_l, at_t, fn_lenL, fn_lenT, fn_max2, fn_abs, fn_int, fn_intb, intV, seq_l, seq_t, lstV, fApp, fAugD, fAugI, olS, odS, odH, inS, getElem_s, E, e0, hn, h14]
      · rw [decide_eq_false y] at e0
        refine ⟨r, by omega, ?_⟩
        generalize rd r = R at *
        generalize ro (fstR tp p) = X at *
        simp [s_law_18, evB, evS, evE, evL, evO, evOs, evEs, evT, evTs, evI, evC, evP, evDd, evPs, evWs, evG, evGs, fSeq2, aft, fNext, fRet, fIf, fAsg, fAsgL, fAsgT, fAsgD, fPar, fWv, fWl, fW0, setWs, wiS, fLit, fVar, Pf.slotAt, varS, fBin, fNeg, negD, fCmp, fChain, fAnd, fOr, fNot, fBool, boolS, fTest, fIte, fAt, fAtD, fCut, fPart, fNoPart, fOs, fOs0, fFn, fVs, fVs0, fTup, fFresh, fDisp, fTupOf, fListOf, fIsi, fCall, fCallW, fVal, fSlotC, isSet, Pf.rs, Pf.rsS, Pf.rsV, rsAll, rsD, keyD, datS, datsS, setS_s, setS_dv, setS_ol, setS_dat, setS_none, setS_olst, setS_rlst, setS_fdic, setS_odic, gN, gT, gs0, gsC, lenIs, binD, add_ii, subD, mulD, fdivD, modD, cmpD, ordD, isD, isNn, isNi, isNb, isNt, isNl, isiD, at_l, at_t, fn_lenL, fn_lenT, fn_max2, fn_abs, fn_int, fn_intb, intV, seq_l, seq_t, lstV, fApp, fAugD, fAugI, olS, odS, odH, inS, getElem_s, E, e0, h14]
    obtain ⟨d, k', hB, hk', s19⟩ : ∃ d k', Bt d ∧ 0 ≤ k' ∧ evS (Y m) s_law_19 (E ns dr (k) o2 (some (.dat (td tp))) o4 (some (.dat (.int (p : Int)))) (some (.dat (ro (fstR tp p)))) o7 (some (.dat (rd r))) o9 (some (.dat (.int (j : Int)))) o11 o12 o13 (some (.dat (rd r')))) = some (.next, (E ns dr (k') o2 (some (.dat (td tp))) o4 (some (.dat (.int (p : Int)))) (some (.dat (ro (fstR tp p)))) o7 (some (.dat (rd r))) o9 (some (.dat (.int (j : Int)))) o11 o12 o13 (some (.dat d)))) := by
      by_cases y : (1 : Int) < (j : Int)
      · obtain ⟨d, k', hB, hk', hb⟩ := bent_t (lvm := m) (by omega) dr hk hr'
        refine ⟨d, k', hB, hk', ?_⟩
        generalize rd r = R at *
        generalize rd r' = R' at *
        generalize ro (fstR tp p) = X at *
        simp [s_law_19, evB, evS, evE, evL, evO, evOs, evEs, evT, evTs, evI, evC, evP, evDd, evPs, evWs, evG, evGs, fSeq2, aft, fNext, fRet, fIf, fAsg, fAsgL, fAsgT, fAsgD, fPar, fWv, fWl, fW0, setWs, wiS, fLit, fVar, Pf.slotAt, varS, fBin, fNeg, negD, fCmp, fChain, fAnd, fOr, fNot, fBool, boolS, fTest, fIte, fAt, fAtD, fCut, fPart, fNoPart, fOs, fOs0, fFn, fVs, fVs0, fTup, fFresh, fDisp, fTupOf, fListOf, fIsi, fCall, fCallW, fVal, fSlotC, isSet, Pf.rs, Pf.rsS, Pf.rsV, rsAll, rsD, keyD, datS, datsS, setS_s, setS_dv, setS_ol, setS_dat, setS_none, setS_olst, setS_rlst, setS_fdic, setS_odic, gN, gT, gs0, gsC, lenIs, binD, add_ii, subD, mulD, fdivD, modD, cmpD, ordD, isD, isNn, isNi, isNb, isNt, isNl, isiD, at_l, at_t, fn_lenL, fn_lenT, fn_max2, fn_abs, fn_int, fn_intb, intV, seq_l, seq_t, lstV, fApp, fAugD, fAugI, olS, odS, odH, inS, getElem_s, E, y, np__law_bent, hb]
      · refine ⟨rd r', k, Bt_rd (by omega), hk, ?_⟩
        generalize rd r = R at *
        generalize rd r' = R' at *
        generalize ro (fstR tp p) = X at *
        simp [s_law_19, evB, evS, evE, evL, evO, evOs, evEs, evT, evTs, evI, evC, evP, evDd, evPs, evWs, evG, evGs, fSeq2, aft, fNext, fRet, fIf, fAsg, fAsgL, fAsgT, fAsgD, fPar, fWv, fWl, fW0, setWs, wiS, fLit, fVar, Pf.slotAt, varS, fBin, fNeg, negD, fCmp, fChain, fAnd, fOr, fNot, fBool, boolS, fTest, fIte, fAt, fAtD, fCut, fPart, fNoPart, fOs, fOs0, fFn, fVs, fVs0, fTup, fFresh, fDisp, fTupOf, fListOf, fIsi, fCall, fCallW, fVal, fSlotC, isSet, Pf.rs, Pf.rsS, Pf.rsV, rsAll, rsD, keyD, datS, datsS, setS_s, setS_dv, setS_ol, setS_dat, setS_none, setS_olst, setS_rlst, setS_fdic, setS_odic, gN, gT, gs0, gsC, lenIs, binD, add_ii, subD, mulD, fdivD, modD, cmpD, ordD, isD, isNn, isNi, isNb, isNt, isNl, isiD, at_l, at_t, fn_lenL, fn_lenT, fn_max2, fn_abs, fn_int, fn_intb, intV, seq_l, seq_t, lstV, fApp, fAugD, fAugI, olS, odS, odH, inS, getElem_s, E, y]
    have c1 := is_back_row_lv (lvm := m) (by omega) ht (p := p) (by omega) hB
    have c2 := lis_row_lv (lvm := m) (by omega) ht (p := p) (by omega) hB
    have c3 := says_lv (lvm := m) (by omega) (ibr tp p d)
    refine ⟨_, (E ns dr (k') o2 (some (.dat (td tp))) o4 (some (.dat (.int (p : Int)))) (some (.dat (ro (fstR tp p)))) o7 (some (.dat (rd r))) o9 (some (.dat (.int (j : Int)))) o11 o12 o13 (some (.dat d))), g10, B_next s18 (B_next s19 (B_next ?_ rfl)), k', _, _, hk', Fr_dat _, Fr_dat _, rfl⟩
    generalize ibr tp p d = b at *
    generalize rd r = R at *
    generalize ro (fstR tp p) = X at *
    simp [s_law_20, evB, evS, evE, evL, evO, evOs, evEs, evT, evTs, evI, evC, evP, evDd, evPs, evWs, evG, evGs, fSeq2, aft, fNext, fRet, fIf, fAsg, fAsgL, fAsgT, fAsgD, fPar, fWv, fWl, fW0, setWs, wiS, fLit, fVar, Pf.slotAt, varS, fBin, fNeg, negD, fCmp, fChain, fAnd, fOr, fNot, fBool, boolS, fTest, fIte, fAt, fAtD, fCut, fPart, fNoPart, fOs, fOs0, fFn, fVs, fVs0, fTup, fFresh, fDisp, fTupOf, fListOf, fIsi, fCall, fCallW, fVal, fSlotC, isSet, Pf.rs, Pf.rsS, Pf.rsV, rsAll, rsD, keyD, datS, datsS, setS_s, setS_dv, setS_ol, setS_dat, setS_none, setS_olst, setS_rlst, setS_fdic, setS_odic, gN, gT, gs0, gsC, lenIs, binD, add_ii, subD, mulD, fdivD, modD, cmpD, ordD, isD, isNn, isNi, isNb, isNt, isNl, isiD, at_l, at_t, fn_lenL, fn_lenT, fn_max2, fn_abs, fn_int, fn_intb, intV, seq_l, seq_t, lstV, fApp, fAugD, fAugI, olS, odS, odH, inS, getElem_s, E, np_is_back_row, np__law_is_row, np__law_says, c1, c2, c3]
  refine ⟨k', o10', o14', hk', f10, f14, ?_⟩
  unfold s_law_21
  refine for_next (ds := rngD 0 4) (en1 := (E ns dr (k) o2 (some (.dat (td tp))) o4 (some (.dat (.int (p : Int)))) (some (.dat (ro (fstR tp p)))) o7 (some (.dat (rd r))) o9 o10 o11 o12 o13 o14)) ?_ a1
  exact rng1_ev (k := 4) (os := [.val (.dat (.int 4))]) (m := 4) rfl rfl rfl (by decide)


end K31

set_option maxHeartbeats 4000000
namespace K31
open PySem L2 Pf
-- slots 2 14
variable {ns dr : List Int} {k : Int} {o2 o3 o4 o5 o6 o7 o8 o9 o10 o11 o12 o13 o14 : Option SV} {m : Nat}
/-- a turn's start -/
def St (ns dr : List Int) (en : En) : Prop := ∃ (k : Int) (o2 o3 o4 o5 o6 o7 o8 o9 o10 o11 o12 o13 o14 : Option SV), 0 ≤ k ∧ Fr o2 ∧ Fr o3 ∧ Fr o4 ∧ Fr o5 ∧ Fr o6 ∧ Fr o7 ∧ Fr o8 ∧ Fr o9 ∧ Fr o10 ∧ Fr o11 ∧ Fr o12 ∧ Fr o13 ∧ Fr o14 ∧ en = (E ns dr (k) o2 o3 o4 o5 o6 o7 o8 o9 o10 o11 o12 o13 o14)
theorem turn_ok (hm : 29 ≤ m) {en : En} (h : St ns dr en) : ∃ en', St ns dr en' ∧ evB (Y m) b_law_1 en = some (.next, en') := by
  obtain ⟨k, o2, o3, o4, o5, o6, o7, o8, o9, o10, o11, o12, o13, o14, hk, h2, h3, h4, h5, h6, h7, h8, h9, h10, h11, h12, h13, h14, rfl⟩ := h
  have s1 := z1 (ns := ns) (dr := dr) (m := m) (k := k) (o2 := o2) (o4 := o4) (o5 := o5) (o6 := o6) (o7 := o7) (o8 := o8) (o9 := o9) (o10 := o10) (o11 := o11) (o12 := o12) (o13 := o13) (o14 := o14) h3
  obtain ⟨k1, tp, p4, p11, hk1, ht, q4, q11, s4⟩ := z4 (ns := ns) (dr := dr) (m := m) (k := k) (o2 := o2) (o4 := o4) (o5 := o5) (o6 := o6) (o7 := o7) (o8 := o8) (o9 := o9) (o10 := o10) (o11 := o11) (o12 := o12) (o13 := o13) (o14 := o14) hm hk h4 h11
  obtain ⟨p, hp, s5⟩ := z5 (ns := ns) (dr := dr) (m := m) (k := k1) (o2 := o2) (o4 := p4) (o5 := o5) (o6 := o6) (o7 := o7) (o8 := o8) (o9 := o9) (o10 := o10) (o11 := p11) (o12 := o12) (o13 := o13) (o14 := o14) hm hk1 h5 (tp := tp)
  obtain ⟨k2, r, hk2, hr, s10⟩ := z10 (ns := ns) (dr := dr) (m := m) (k := k1 + 1) (o2 := o2) (o4 := p4) (o5 := some (.dat (.int (p : Int)))) (o6 := some (.dat (ro (fstR tp p)))) (o7 := some (.olst (nl ((List.range 6).filter fun p => (fstR tp p).isSome)))) (o8 := o8) (o9 := o9) (o10 := o10) (o11 := p11) (o12 := o12) (o13 := o13) (o14 := o14) hm (by omega) ht h8
  obtain ⟨r4, r12, r13, t4, t12, t13, s14⟩ := z14 (ns := ns) (dr := dr) (m := m) (k := k2) (o2 := o2) (o4 := p4) (o5 := some (.dat (.int (p : Int)))) (o6 := some (.dat (ro (fstR tp p)))) (o7 := some (.olst (nl ((List.range 6).filter fun p => (fstR tp p).isSome)))) (o10 := o10) (o11 := p11) (o12 := o12) (o13 := o13) (o14 := o14) hm ht (r := r) (by omega) q4 h12 h13
  obtain ⟨u4, v4, s17⟩ := z17 (ns := ns) (dr := dr) (m := m) (k := k2) (o2 := o2) (o4 := r4) (o5 := some (.dat (.int (p : Int)))) (o6 := some (.dat (ro (fstR tp p)))) (o7 := some (.olst (nl ((List.range 6).filter fun p => (fstR tp p).isSome)))) (o9 := some (.olst (nl ((List.range tp.length).filter (cf tp r))))) (o10 := o10) (o11 := p11) (o12 := r12) (o13 := r13) (o14 := o14) hm ht (r := r) (by omega) t4
  obtain ⟨k3, r10, r14, hk3, t10, t14, s21⟩ := z21 (ns := ns) (dr := dr) (m := m) (k := k2) (o2 := o2) (o4 := u4) (o7 := some (.olst (nl ((List.range 6).filter fun p => (fstR tp p).isSome)))) (o9 := some (.olst (nl ((List.range tp.length).filter (cf tp r))))) (o10 := o10) (o11 := p11) (o12 := r12) (o13 := r13) (o14 := o14) hm hk2 ht hp hr h10 h14
  refine ⟨(E ns dr (k3) o2 (some (.dat (td tp))) (u4) (some (.dat (.int (p : Int)))) (some (.dat (ro (fstR tp p)))) (some (.olst (nl ((List.range 6).filter fun p => (fstR tp p).isSome)))) (some (.dat (rd r))) (some (.olst (nl ((List.range tp.length).filter (cf tp r))))) (r10) (p11) (r12) (r13) (r14)), ⟨_, _, _, _, _, _, _, _, _, _, _, _, _, _, hk3, h2, Fr_dat _, v4, Fr_dat _, Fr_dat _, Fr_olst _, Fr_dat _, Fr_olst _, t10, q11, t12, t13, t14, rfl⟩, ?_⟩
  unfold b_law_1
  refine B_next s1 ?_
  refine B_next s4 ?_
  refine B_next s5 ?_
  refine B_next (z6 hm ht hp h6) ?_
  refine B_next (z7 hm ht hp) ?_
  refine B_next (z8 hm ht h7) ?_
  refine B_next (z9 hm ht) ?_
  refine B_next s10 ?_
  refine B_next (z11 h9) ?_
  refine B_next s14 ?_
  refine B_next (z15 hm ht (by omega)) ?_
  refine B_next s17 ?_
  refine B_next s21 ?_
  rfl
theorem law_main (hm : 29 ≤ m) (ns : List Int) (hns : ns.length ≤ 63) : ∃ o, ((Y (m + 1)).f 22).2 [.rlst (ns.map PyData.int)] = some (.bool true, o) := by
  obtain ⟨dr, hdr, hd0⟩ := draws_lv (lvm := m) (by omega) ns hns
  obtain ⟨en', h1, k', o2, o3, o4, o5, o6, o7, o8, o9, o10, o11, o12, o13, o14, _, _, _, _, _, _, _, _, _, _, _, _, _, _, rfl⟩ := loop_inv (bd := evG (.name 2)) (body := evB (Y m) b_law_1) (P := fun i en => St ns dr en) (rngD 0 3) 0 (E ns dr 0 none none none none none none none none none none none none none) ⟨0, none, none, none, none, none, none, none, none, none, none, none, none, none, by decide, Fr_none, Fr_none, Fr_none, Fr_none, Fr_none, Fr_none, Fr_none, Fr_none, Fr_none, Fr_none, Fr_none, Fr_none, Fr_none, rfl⟩ fun j d en hd hP => by
    obtain ⟨k, o2, o3, o4, o5, o6, o7, o8, o9, o10, o11, o12, o13, o14, hk, h2, h3, h4, h5, h6, h7, h8, h9, h10, h11, h12, h13, h14, rfl⟩ := hP
    obtain ⟨en2, hs, ht⟩ := turn_ok (ns := ns) (dr := dr) (m := m) hm (en := E ns dr k (some (.dat d)) o3 o4 o5 o6 o7 o8 o9 o10 o11 o12 o13 o14) ⟨_, _, _, _, _, _, _, _, _, _, _, _, _, _, hk, Fr_dat _, h3, h4, h5, h6, h7, h8, h9, h10, h11, h12, h13, h14, rfl⟩
    refine ⟨_, en2, ?_, ht, hs⟩
    unfold Fr at h2
    show setS 2 (.dat d) _ = _
    simp [E, setS_s, h2]
  refine ⟨[.rlst (ns.map PyData.int)], ?_⟩
  rw [f_law]
  refine fb_ret (en' := (E ns dr (k') o2 o3 o4 o5 o6 o7 o8 o9 o10 o11 o12 o13 o14)) rfl (B_next (en1 := E ns dr 0 none none none none none none none none none none none none none) ?_ (B_next (for_next (ds := rngD 0 3) (en1 := E ns dr 0 none none none none none none none none none none none none none) ?_ h1) (B_ret ?_))) rfl
  · have hm : mergeD [] [((.inr ("draws" : Str) : Key), PyData.list (dr.map PyData.int)), (.inr ("at" : Str), .int 0)] = W dr 0 := by
      have h : decide (("draws" : Str) = "at") = false := by decide
      simp [mergeD, putD, W, h]
    simp [evB, evS, evE, evL, evO, evOs, evEs, evT, evTs, evI, evC, evP, evDd, evPs, evWs, evG, evGs, fSeq2, aft, fNext, fRet, fIf, fAsg, fAsgL, fAsgT, fAsgD, fPar, fWv, fWl, fW0, setWs, wiS, fLit, fVar, Pf.slotAt, varS, fBin, fNeg, negD, fCmp, fChain, fAnd, fOr, fNot, fBool, boolS, fTest, fIte, fAt, fAtD, fCut, fPart, fNoPart, fOs, fOs0, fFn, fVs, fVs0, fTup, fFresh, fDisp, fTupOf, fListOf, fIsi, fCall, fCallW, fVal, fSlotC, isSet, Pf.rs, Pf.rsS, Pf.rsV, rsAll, rsD, keyD, datS, datsS, setS_s, setS_dv, setS_ol, setS_dat, setS_none, setS_olst, setS_rlst, setS_fdic, setS_odic, gN, gT, gs0, gsC, lenIs, binD, addD, subD, mulD, fdivD, modD, cmpD, ordD, isD, isN, isiD, atD, fnD, intV, seqV, lstV, fApp, fAugD, fAugI, olS, odS, odH, inS, getElem_s, E, List.replicate, np__law_draws, hd0, fAsgD, fDict, fPairs, hm]
  · exact rng1_ev (k := 3) (os := [.val (.dat (.int 3))]) (m := 3) rfl rfl rfl (by decide)
  · simp [evB, evS, evE, evL, evO, evOs, evEs, evT, evTs, evI, evC, evP, evDd, evPs, evWs, evG, evGs, fSeq2, aft, fNext, fRet, fIf, fAsg, fAsgL, fAsgT, fAsgD, fPar, fWv, fWl, fW0, setWs, wiS, fLit, fVar, Pf.slotAt, varS, fBin, fNeg, negD, fCmp, fChain, fAnd, fOr, fNot, fBool, boolS, fTest, fIte, fAt, fAtD, fCut, fPart, fNoPart, fOs, fOs0, fFn, fVs, fVs0, fTup, fFresh, fDisp, fTupOf, fListOf, fIsi, fCall, fCallW, fVal, fSlotC, isSet, Pf.rs, Pf.rsS, Pf.rsV, rsAll, rsD, keyD, datS, datsS, setS_s, setS_dv, setS_ol, setS_dat, setS_none, setS_olst, setS_rlst, setS_fdic, setS_odic, gN, gT, gs0, gsC, lenIs, binD, addD, subD, mulD, fdivD, modD, cmpD, ordD, isD, isN, isiD, atD, fnD, intV, seqV, lstV, fApp, fAugD, fAugI, olS, odS, odH, inS, getElem_s, E]
theorem law_true (ns : List Int) (hns : ns.length ≤ 63) : ∃ o, ((Y 30).f 22).2 [.rlst (ns.map PyData.int)] = some (.bool true, o) := by
  have h := law_main (m := 29) (by decide) ns hns
  rw [show 29 + 1 = 30 from rfl] at h
  exact h


end K31

set_option maxHeartbeats 4000000
namespace K31
open PySem L2 Pf
abbrev LV : Nat := 30
def topS (i : Nat) : Stmt := PySem.Challenge.pw_teachwarrant_k31_topics_that_come_back.main.body.getD i (.Pass ⟨0, 0, 0, 0⟩)
def gl : List (Str × GK) := [(("abs" : Str), GK.blt), (("all" : Str), GK.blt), (("bool" : Str), GK.blt), (("int" : Str), GK.blt), (("isinstance" : Str), GK.blt), (("len" : Str), GK.blt), (("list" : Str), GK.blt), (("range" : Str), GK.blt), (("str" : Str), GK.blt), (("tuple" : Str), GK.blt), (("is_number" : Str), GK.fn 0), (("is_below" : Str), GK.fn 1), (("gaps_of" : Str), GK.fn 2), (("last_place" : Str), GK.fn 3), (("can_follow" : Str), GK.fn 4), (("could_follow" : Str), GK.fn 5), (("is_lost" : Str), GK.fn 6), (("row_from" : Str), GK.fn 7), (("back_row" : Str), GK.fn 8), (("is_back_row" : Str), GK.fn 9), (("least_places" : Str), GK.fn 10), (("_law_draws" : Str), GK.fn 11), (("_law_next" : Str), GK.fn 12), (("_law_pick" : Str), GK.fn 13), (("_law_says" : Str), GK.fn 14), (("_law_same" : Str), GK.fn 15), (("_law_bent" : Str), GK.fn 16), (("_law_is_number" : Str), GK.fn 17), (("_law_gaps" : Str), GK.fn 18), (("_law_many" : Str), GK.fn 19), (("_law_is_row" : Str), GK.fn 20), (("_law_first" : Str), GK.fn 21), (("law" : Str), GK.fn 22)]
abbrev s_is_number : Stmt := topS 1
def N_is_number : List Str := ["thing"]
def P_is_number : List Str := ["thing"]
theorem sc_is_number : FnScope N_is_number P_is_number (defScope s_is_number) := ⟨rfl, rfl, rfl, by decide +kernel, rfl, by decide +kernel, by decide +kernel⟩
theorem ck_is_number : chkB b_is_number ⟨N_is_number, defScope s_is_number, none, gl⟩ (defBody s_is_number) = true := by decide +kernel
abbrev s_is_below : Stmt := topS 2
def N_is_below : List Str := ["thing", "many"]
def P_is_below : List Str := ["thing", "many"]
theorem sc_is_below : FnScope N_is_below P_is_below (defScope s_is_below) := ⟨rfl, rfl, rfl, by decide +kernel, rfl, by decide +kernel, by decide +kernel⟩
theorem ck_is_below : chkB b_is_below ⟨N_is_below, defScope s_is_below, none, gl⟩ (defBody s_is_below) = true := by decide +kernel
abbrev s_gaps_of : Stmt := topS 4
def N_gaps_of : List Str := ["row", "topic", "places", "k"]
def P_gaps_of : List Str := ["row", "topic"]
theorem sc_gaps_of : FnScope N_gaps_of P_gaps_of (defScope s_gaps_of) := ⟨rfl, rfl, rfl, by decide +kernel, rfl, by decide +kernel, by decide +kernel⟩
theorem ck_gaps_of : chkB b_gaps_of ⟨N_gaps_of, defScope s_gaps_of, none, gl⟩ (defBody s_gaps_of) = true := by decide +kernel
abbrev s_last_place : Stmt := topS 5
def N_last_place : List Str := ["row", "topic", "k"]
def P_last_place : List Str := ["row", "topic"]
theorem sc_last_place : FnScope N_last_place P_last_place (defScope s_last_place) := ⟨rfl, rfl, rfl, by decide +kernel, rfl, by decide +kernel, by decide +kernel⟩
theorem ck_last_place : chkB b_last_place ⟨N_last_place, defScope s_last_place, none, gl⟩ (defBody s_last_place) = true := by decide +kernel
abbrev s_can_follow : Stmt := topS 6
def N_can_follow : List Str := ["topics", "row", "topic", "times", "least", "most", "last"]
def P_can_follow : List Str := ["topics", "row", "topic"]
theorem sc_can_follow : FnScope N_can_follow P_can_follow (defScope s_can_follow) := ⟨rfl, rfl, rfl, by decide +kernel, rfl, by decide +kernel, by decide +kernel⟩
theorem ck_can_follow : chkB b_can_follow ⟨N_can_follow, defScope s_can_follow, none, gl⟩ (defBody s_can_follow) = true := by decide +kernel
abbrev s_could_follow : Stmt := topS 7
def N_could_follow : List Str := ["topics", "row", "topic"]
def P_could_follow : List Str := ["topics", "row"]
theorem sc_could_follow : FnScope N_could_follow P_could_follow (defScope s_could_follow) := ⟨rfl, rfl, rfl, by decide +kernel, rfl, by decide +kernel, by decide +kernel⟩
theorem ck_could_follow : chkB b_could_follow ⟨N_could_follow, defScope s_could_follow, none, gl⟩ (defBody s_could_follow) = true := by decide +kernel
abbrev s_is_lost : Stmt := topS 8
def N_is_lost : List Str := ["topics", "row", "topic", "times", "_", "most", "last"]
def P_is_lost : List Str := ["topics", "row"]
theorem sc_is_lost : FnScope N_is_lost P_is_lost (defScope s_is_lost) := ⟨rfl, rfl, rfl, by decide +kernel, rfl, by decide +kernel, by decide +kernel⟩
theorem ck_is_lost : chkB b_is_lost ⟨N_is_lost, defScope s_is_lost, none, gl⟩ (defBody s_is_lost) = true := by decide +kernel
abbrev s_row_from : Stmt := topS 9
def N_row_from : List Str := ["topics", "places", "row", "one", "found", "topic"]
def P_row_from : List Str := ["topics", "places", "row"]
theorem sc_row_from : FnScope N_row_from P_row_from (defScope s_row_from) := ⟨rfl, rfl, rfl, by decide +kernel, rfl, by decide +kernel, by decide +kernel⟩
theorem ck_row_from : chkB b_row_from ⟨N_row_from, defScope s_row_from, none, gl⟩ (defBody s_row_from) = true := by decide +kernel
abbrev s_back_row : Stmt := topS 10
def N_back_row : List Str := ["topics", "places"]
def P_back_row : List Str := ["topics", "places"]
theorem sc_back_row : FnScope N_back_row P_back_row (defScope s_back_row) := ⟨rfl, rfl, rfl, by decide +kernel, rfl, by decide +kernel, by decide +kernel⟩
theorem ck_back_row : chkB b_back_row ⟨N_back_row, defScope s_back_row, none, gl⟩ (defBody s_back_row) = true := by decide +kernel
abbrev s_is_back_row : Stmt := topS 11
def N_is_back_row : List Str := ["topics", "places", "row", "topic", "times", "least", "most", "one", "gap"]
def P_is_back_row : List Str := ["topics", "places", "row"]
theorem sc_is_back_row : FnScope N_is_back_row P_is_back_row (defScope s_is_back_row) := ⟨rfl, rfl, rfl, by decide +kernel, rfl, by decide +kernel, by decide +kernel⟩
theorem ck_is_back_row : chkB b_is_back_row ⟨N_is_back_row, defScope s_is_back_row, none, gl⟩ (defBody s_is_back_row) = true := by decide +kernel
abbrev s_least_places : Stmt := topS 12
def N_least_places : List Str := ["topics", "most", "places"]
def P_least_places : List Str := ["topics", "most"]
theorem sc_least_places : FnScope N_least_places P_least_places (defScope s_least_places) := ⟨rfl, rfl, rfl, by decide +kernel, rfl, by decide +kernel, by decide +kernel⟩
theorem ck_least_places : chkB b_least_places ⟨N_least_places, defScope s_least_places, none, gl⟩ (defBody s_least_places) = true := by decide +kernel
abbrev s__law_draws : Stmt := topS 14
def N__law_draws : List Str := ["script", "many", "draws", "mixed", "k", "cell", "rest", "turn"]
def P__law_draws : List Str := ["script", "many"]
theorem sc__law_draws : FnScope N__law_draws P__law_draws (defScope s__law_draws) := ⟨rfl, rfl, rfl, by decide +kernel, rfl, by decide +kernel, by decide +kernel⟩
theorem ck__law_draws : chkB b__law_draws ⟨N__law_draws, defScope s__law_draws, none, gl⟩ (defBody s__law_draws) = true := by decide +kernel
abbrev s__law_next : Stmt := topS 15
def N__law_next : List Str := ["w", "many"]
def P__law_next : List Str := ["w", "many"]
theorem sc__law_next : FnScope N__law_next P__law_next (defScope s__law_next) := ⟨rfl, rfl, rfl, by decide +kernel, rfl, by decide +kernel, by decide +kernel⟩
theorem ck__law_next : chkB b__law_next ⟨N__law_next, defScope s__law_next, none, gl⟩ (defBody s__law_next) = true := by decide +kernel
abbrev s__law_pick : Stmt := topS 16
def N__law_pick : List Str := ["w", "rows"]
def P__law_pick : List Str := ["w", "rows"]
theorem sc__law_pick : FnScope N__law_pick P__law_pick (defScope s__law_pick) := ⟨rfl, rfl, rfl, by decide +kernel, rfl, by decide +kernel, by decide +kernel⟩
theorem ck__law_pick : chkB b__law_pick ⟨N__law_pick, defScope s__law_pick, none, gl⟩ (defBody s__law_pick) = true := by decide +kernel
abbrev s__law_says : Stmt := topS 17
def N__law_says : List Str := ["seen", "due"]
def P__law_says : List Str := ["seen", "due"]
theorem sc__law_says : FnScope N__law_says P__law_says (defScope s__law_says) := ⟨rfl, rfl, rfl, by decide +kernel, rfl, by decide +kernel, by decide +kernel⟩
theorem ck__law_says : chkB b__law_says ⟨N__law_says, defScope s__law_says, none, gl⟩ (defBody s__law_says) = true := by decide +kernel
abbrev s__law_same : Stmt := topS 18
def N__law_same : List Str := ["seen", "due", "k"]
def P__law_same : List Str := ["seen", "due"]
theorem sc__law_same : FnScope N__law_same P__law_same (defScope s__law_same) := ⟨rfl, rfl, rfl, by decide +kernel, rfl, by decide +kernel, by decide +kernel⟩
theorem ck__law_same : chkB b__law_same ⟨N__law_same, defScope s__law_same, none, gl⟩ (defBody s__law_same) = true := by decide +kernel
abbrev s__law_bent : Stmt := topS 19
def N__law_bent : List Str := ["w", "value", "at"]
def P__law_bent : List Str := ["w", "value"]
theorem sc__law_bent : FnScope N__law_bent P__law_bent (defScope s__law_bent) := ⟨rfl, rfl, rfl, by decide +kernel, rfl, by decide +kernel, by decide +kernel⟩
theorem ck__law_bent : chkB b__law_bent ⟨N__law_bent, defScope s__law_bent, none, gl⟩ (defBody s__law_bent) = true := by decide +kernel
abbrev s__law_is_number : Stmt := topS 21
def N__law_is_number : List Str := ["thing"]
def P__law_is_number : List Str := ["thing"]
theorem sc__law_is_number : FnScope N__law_is_number P__law_is_number (defScope s__law_is_number) := ⟨rfl, rfl, rfl, by decide +kernel, rfl, by decide +kernel, by decide +kernel⟩
theorem ck__law_is_number : chkB b__law_is_number ⟨N__law_is_number, defScope s__law_is_number, none, gl⟩ (defBody s__law_is_number) = true := by decide +kernel
abbrev s__law_gaps : Stmt := topS 22
def N__law_gaps : List Str := ["row", "topic", "places", "k"]
def P__law_gaps : List Str := ["row", "topic"]
theorem sc__law_gaps : FnScope N__law_gaps P__law_gaps (defScope s__law_gaps) := ⟨rfl, rfl, rfl, by decide +kernel, rfl, by decide +kernel, by decide +kernel⟩
theorem ck__law_gaps : chkB b__law_gaps ⟨N__law_gaps, defScope s__law_gaps, none, gl⟩ (defBody s__law_gaps) = true := by decide +kernel
abbrev s__law_many : Stmt := topS 23
def N__law_many : List Str := ["row", "topic", "k"]
def P__law_many : List Str := ["row", "topic"]
theorem sc__law_many : FnScope N__law_many P__law_many (defScope s__law_many) := ⟨rfl, rfl, rfl, by decide +kernel, rfl, by decide +kernel, by decide +kernel⟩
theorem ck__law_many : chkB b__law_many ⟨N__law_many, defScope s__law_many, none, gl⟩ (defBody s__law_many) = true := by decide +kernel
abbrev s__law_is_row : Stmt := topS 24
def N__law_is_row : List Str := ["topics", "places", "row", "topic", "times", "least", "most", "one", "gap"]
def P__law_is_row : List Str := ["topics", "places", "row"]
theorem sc__law_is_row : FnScope N__law_is_row P__law_is_row (defScope s__law_is_row) := ⟨rfl, rfl, rfl, by decide +kernel, rfl, by decide +kernel, by decide +kernel⟩
theorem ck__law_is_row : chkB b__law_is_row ⟨N__law_is_row, defScope s__law_is_row, none, gl⟩ (defBody s__law_is_row) = true := by decide +kernel
abbrev s__law_first : Stmt := topS 25
def N__law_first : List Str := ["topics", "places", "rows", "place", "good", "longer", "row", "one", "more", "bad", "gaps", "t", "gap"]
def P__law_first : List Str := ["topics", "places"]
theorem sc__law_first : FnScope N__law_first P__law_first (defScope s__law_first) := ⟨rfl, rfl, rfl, by decide +kernel, rfl, by decide +kernel, by decide +kernel⟩
theorem ck__law_first : chkB b__law_first ⟨N__law_first, defScope s__law_first, none, gl⟩ (defBody s__law_first) = true := by decide +kernel
abbrev s_law : Stmt := topS 26
def N_law : List Str := ["script", "w", "turn", "topics", "topic", "places", "row", "fits", "begun", "able", "time", "least", "gaps", "times", "value", "many", "k", "gap"]
def P_law : List Str := ["script"]
theorem sc_law : FnScope N_law P_law (defScope s_law) := ⟨rfl, rfl, rfl, by decide +kernel, rfl, by decide +kernel, by decide +kernel⟩
theorem ck_law : chkB b_law ⟨N_law, defScope s_law, none, gl⟩ (defBody s_law) = true := by decide +kernel
end K31

set_option maxHeartbeats 4000000
namespace K31
open PySem L2 Pf PyProof.Rows
theorem all_mk {l : PySem.W.OpenLaw} {w : World} {K : PySem.W.Frag} {h : Heap} {mg : Str → Option Value} {fa : Addr} (X : K.In h) (G : h.Ns mainGlobals mg) (hfa : mg "law" = some (.ref fa))
    {f0 f1 f2 f3 f4 f5 f6 f7 f8 f9 f10 f11 f12 f13 f14 f15 f16 f17 f18 f19 f20 f21 f22 : Addr} {od0 an0 od1 an1 od2 an2 od3 an3 od4 an4 od5 an5 od6 an6 od7 an7 od8 an8 od9 an9 od10 an10 od11 an11 od12 an12 od13 an13 od14 an14 od15 an15 od16 an16 od17 an17 od18 an18 od19 an19 od20 an20 od21 an21 od22 an22 : Option Addr} {sl0 sl1 sl2 sl3 sl4 sl5 sl6 sl7 sl8 sl9 sl10 sl11 sl12 sl13 sl14 sl15 sl16 sl17 sl18 sl19 sl20 sl21 sl22 : Array (Option Value)}
    {oc0 kV0 dc0 pm0 cd0 ct0 oc1 kV1 dc1 pm1 cd1 ct1 oc2 kV2 dc2 pm2 cd2 ct2 oc3 kV3 dc3 pm3 cd3 ct3 oc4 kV4 dc4 pm4 cd4 ct4 oc5 kV5 dc5 pm5 cd5 ct5 oc6 kV6 dc6 pm6 cd6 ct6 oc7 kV7 dc7 pm7 cd7 ct7 oc8 kV8 dc8 pm8 cd8 ct8 oc9 kV9 dc9 pm9 cd9 ct9 oc10 kV10 dc10 pm10 cd10 ct10 oc11 kV11 dc11 pm11 cd11 ct11 oc12 kV12 dc12 pm12 cd12 ct12 oc13 kV13 dc13 pm13 cd13 ct13 oc14 kV14 dc14 pm14 cd14 ct14 oc15 kV15 dc15 pm15 cd15 ct15 oc16 kV16 dc16 pm16 cd16 ct16 oc17 kV17 dc17 pm17 cd17 ct17 oc18 kV18 dc18 pm18 cd18 ct18 oc19 kV19 dc19 pm19 cd19 ct19 oc20 kV20 dc20 pm20 cd20 ct20 oc21 kV21 dc21 pm21 cd21 ct21 oc22 kV22 dc22 pm22 cd22 ct22 : Value}
    (a0 : PySem.W.nsIn K mainGlobals "is_number" = some (some (.ref f0))) (l0 : K.lookup f0 = some ⟨oc0, od0, .func (PySem.W.fnOf "is_number" "is_number" (defArgs s_is_number) (defBody s_is_number) (defScope s_is_number) .none kV0 dc0 pm0 an0 cd0 ct0), sl0⟩) (c0 : PySem.W.codeIn K cd0 "is_number" = true) (k0 : PySem.W.keepIn K (.ref f0) = true)
    (a1 : PySem.W.nsIn K mainGlobals "is_below" = some (some (.ref f1))) (l1 : K.lookup f1 = some ⟨oc1, od1, .func (PySem.W.fnOf "is_below" "is_below" (defArgs s_is_below) (defBody s_is_below) (defScope s_is_below) .none kV1 dc1 pm1 an1 cd1 ct1), sl1⟩) (c1 : PySem.W.codeIn K cd1 "is_below" = true) (k1 : PySem.W.keepIn K (.ref f1) = true)
    (a2 : PySem.W.nsIn K mainGlobals "gaps_of" = some (some (.ref f2))) (l2 : K.lookup f2 = some ⟨oc2, od2, .func (PySem.W.fnOf "gaps_of" "gaps_of" (defArgs s_gaps_of) (defBody s_gaps_of) (defScope s_gaps_of) .none kV2 dc2 pm2 an2 cd2 ct2), sl2⟩) (c2 : PySem.W.codeIn K cd2 "gaps_of" = true) (k2 : PySem.W.keepIn K (.ref f2) = true)
    (a3 : PySem.W.nsIn K mainGlobals "last_place" = some (some (.ref f3))) (l3 : K.lookup f3 = some ⟨oc3, od3, .func (PySem.W.fnOf "last_place" "last_place" (defArgs s_last_place) (defBody s_last_place) (defScope s_last_place) .none kV3 dc3 pm3 an3 cd3 ct3), sl3⟩) (c3 : PySem.W.codeIn K cd3 "last_place" = true) (k3 : PySem.W.keepIn K (.ref f3) = true)
    (a4 : PySem.W.nsIn K mainGlobals "can_follow" = some (some (.ref f4))) (l4 : K.lookup f4 = some ⟨oc4, od4, .func (PySem.W.fnOf "can_follow" "can_follow" (defArgs s_can_follow) (defBody s_can_follow) (defScope s_can_follow) .none kV4 dc4 pm4 an4 cd4 ct4), sl4⟩) (c4 : PySem.W.codeIn K cd4 "can_follow" = true) (k4 : PySem.W.keepIn K (.ref f4) = true)
    (a5 : PySem.W.nsIn K mainGlobals "could_follow" = some (some (.ref f5))) (l5 : K.lookup f5 = some ⟨oc5, od5, .func (PySem.W.fnOf "could_follow" "could_follow" (defArgs s_could_follow) (defBody s_could_follow) (defScope s_could_follow) .none kV5 dc5 pm5 an5 cd5 ct5), sl5⟩) (c5 : PySem.W.codeIn K cd5 "could_follow" = true) (k5 : PySem.W.keepIn K (.ref f5) = true)
    (a6 : PySem.W.nsIn K mainGlobals "is_lost" = some (some (.ref f6))) (l6 : K.lookup f6 = some ⟨oc6, od6, .func (PySem.W.fnOf "is_lost" "is_lost" (defArgs s_is_lost) (defBody s_is_lost) (defScope s_is_lost) .none kV6 dc6 pm6 an6 cd6 ct6), sl6⟩) (c6 : PySem.W.codeIn K cd6 "is_lost" = true) (k6 : PySem.W.keepIn K (.ref f6) = true)
    (a7 : PySem.W.nsIn K mainGlobals "row_from" = some (some (.ref f7))) (l7 : K.lookup f7 = some ⟨oc7, od7, .func (PySem.W.fnOf "row_from" "row_from" (defArgs s_row_from) (defBody s_row_from) (defScope s_row_from) .none kV7 dc7 pm7 an7 cd7 ct7), sl7⟩) (c7 : PySem.W.codeIn K cd7 "row_from" = true) (k7 : PySem.W.keepIn K (.ref f7) = true)
    (a8 : PySem.W.nsIn K mainGlobals "back_row" = some (some (.ref f8))) (l8 : K.lookup f8 = some ⟨oc8, od8, .func (PySem.W.fnOf "back_row" "back_row" (defArgs s_back_row) (defBody s_back_row) (defScope s_back_row) .none kV8 dc8 pm8 an8 cd8 ct8), sl8⟩) (c8 : PySem.W.codeIn K cd8 "back_row" = true) (k8 : PySem.W.keepIn K (.ref f8) = true)
    (a9 : PySem.W.nsIn K mainGlobals "is_back_row" = some (some (.ref f9))) (l9 : K.lookup f9 = some ⟨oc9, od9, .func (PySem.W.fnOf "is_back_row" "is_back_row" (defArgs s_is_back_row) (defBody s_is_back_row) (defScope s_is_back_row) .none kV9 dc9 pm9 an9 cd9 ct9), sl9⟩) (c9 : PySem.W.codeIn K cd9 "is_back_row" = true) (k9 : PySem.W.keepIn K (.ref f9) = true)
    (a10 : PySem.W.nsIn K mainGlobals "least_places" = some (some (.ref f10))) (l10 : K.lookup f10 = some ⟨oc10, od10, .func (PySem.W.fnOf "least_places" "least_places" (defArgs s_least_places) (defBody s_least_places) (defScope s_least_places) .none kV10 dc10 pm10 an10 cd10 ct10), sl10⟩) (c10 : PySem.W.codeIn K cd10 "least_places" = true) (k10 : PySem.W.keepIn K (.ref f10) = true)
    (a11 : PySem.W.nsIn K mainGlobals "_law_draws" = some (some (.ref f11))) (l11 : K.lookup f11 = some ⟨oc11, od11, .func (PySem.W.fnOf "_law_draws" "_law_draws" (defArgs s__law_draws) (defBody s__law_draws) (defScope s__law_draws) .none kV11 dc11 pm11 an11 cd11 ct11), sl11⟩) (c11 : PySem.W.codeIn K cd11 "_law_draws" = true) (k11 : PySem.W.keepIn K (.ref f11) = true)
    (a12 : PySem.W.nsIn K mainGlobals "_law_next" = some (some (.ref f12))) (l12 : K.lookup f12 = some ⟨oc12, od12, .func (PySem.W.fnOf "_law_next" "_law_next" (defArgs s__law_next) (defBody s__law_next) (defScope s__law_next) .none kV12 dc12 pm12 an12 cd12 ct12), sl12⟩) (c12 : PySem.W.codeIn K cd12 "_law_next" = true) (k12 : PySem.W.keepIn K (.ref f12) = true)
    (a13 : PySem.W.nsIn K mainGlobals "_law_pick" = some (some (.ref f13))) (l13 : K.lookup f13 = some ⟨oc13, od13, .func (PySem.W.fnOf "_law_pick" "_law_pick" (defArgs s__law_pick) (defBody s__law_pick) (defScope s__law_pick) .none kV13 dc13 pm13 an13 cd13 ct13), sl13⟩) (c13 : PySem.W.codeIn K cd13 "_law_pick" = true) (k13 : PySem.W.keepIn K (.ref f13) = true)
    (a14 : PySem.W.nsIn K mainGlobals "_law_says" = some (some (.ref f14))) (l14 : K.lookup f14 = some ⟨oc14, od14, .func (PySem.W.fnOf "_law_says" "_law_says" (defArgs s__law_says) (defBody s__law_says) (defScope s__law_says) .none kV14 dc14 pm14 an14 cd14 ct14), sl14⟩) (c14 : PySem.W.codeIn K cd14 "_law_says" = true) (k14 : PySem.W.keepIn K (.ref f14) = true)
    (a15 : PySem.W.nsIn K mainGlobals "_law_same" = some (some (.ref f15))) (l15 : K.lookup f15 = some ⟨oc15, od15, .func (PySem.W.fnOf "_law_same" "_law_same" (defArgs s__law_same) (defBody s__law_same) (defScope s__law_same) .none kV15 dc15 pm15 an15 cd15 ct15), sl15⟩) (c15 : PySem.W.codeIn K cd15 "_law_same" = true) (k15 : PySem.W.keepIn K (.ref f15) = true)
    (a16 : PySem.W.nsIn K mainGlobals "_law_bent" = some (some (.ref f16))) (l16 : K.lookup f16 = some ⟨oc16, od16, .func (PySem.W.fnOf "_law_bent" "_law_bent" (defArgs s__law_bent) (defBody s__law_bent) (defScope s__law_bent) .none kV16 dc16 pm16 an16 cd16 ct16), sl16⟩) (c16 : PySem.W.codeIn K cd16 "_law_bent" = true) (k16 : PySem.W.keepIn K (.ref f16) = true)
    (a17 : PySem.W.nsIn K mainGlobals "_law_is_number" = some (some (.ref f17))) (l17 : K.lookup f17 = some ⟨oc17, od17, .func (PySem.W.fnOf "_law_is_number" "_law_is_number" (defArgs s__law_is_number) (defBody s__law_is_number) (defScope s__law_is_number) .none kV17 dc17 pm17 an17 cd17 ct17), sl17⟩) (c17 : PySem.W.codeIn K cd17 "_law_is_number" = true) (k17 : PySem.W.keepIn K (.ref f17) = true)
    (a18 : PySem.W.nsIn K mainGlobals "_law_gaps" = some (some (.ref f18))) (l18 : K.lookup f18 = some ⟨oc18, od18, .func (PySem.W.fnOf "_law_gaps" "_law_gaps" (defArgs s__law_gaps) (defBody s__law_gaps) (defScope s__law_gaps) .none kV18 dc18 pm18 an18 cd18 ct18), sl18⟩) (c18 : PySem.W.codeIn K cd18 "_law_gaps" = true) (k18 : PySem.W.keepIn K (.ref f18) = true)
    (a19 : PySem.W.nsIn K mainGlobals "_law_many" = some (some (.ref f19))) (l19 : K.lookup f19 = some ⟨oc19, od19, .func (PySem.W.fnOf "_law_many" "_law_many" (defArgs s__law_many) (defBody s__law_many) (defScope s__law_many) .none kV19 dc19 pm19 an19 cd19 ct19), sl19⟩) (c19 : PySem.W.codeIn K cd19 "_law_many" = true) (k19 : PySem.W.keepIn K (.ref f19) = true)
    (a20 : PySem.W.nsIn K mainGlobals "_law_is_row" = some (some (.ref f20))) (l20 : K.lookup f20 = some ⟨oc20, od20, .func (PySem.W.fnOf "_law_is_row" "_law_is_row" (defArgs s__law_is_row) (defBody s__law_is_row) (defScope s__law_is_row) .none kV20 dc20 pm20 an20 cd20 ct20), sl20⟩) (c20 : PySem.W.codeIn K cd20 "_law_is_row" = true) (k20 : PySem.W.keepIn K (.ref f20) = true)
    (a21 : PySem.W.nsIn K mainGlobals "_law_first" = some (some (.ref f21))) (l21 : K.lookup f21 = some ⟨oc21, od21, .func (PySem.W.fnOf "_law_first" "_law_first" (defArgs s__law_first) (defBody s__law_first) (defScope s__law_first) .none kV21 dc21 pm21 an21 cd21 ct21), sl21⟩) (c21 : PySem.W.codeIn K cd21 "_law_first" = true) (k21 : PySem.W.keepIn K (.ref f21) = true)
    (a22 : PySem.W.nsIn K mainGlobals "law" = some (some (.ref f22))) (l22 : K.lookup f22 = some ⟨oc22, od22, .func (PySem.W.fnOf "law" "law" (defArgs s_law) (defBody s_law) (defScope s_law) .none kV22 dc22 pm22 an22 cd22 ct22), sl22⟩) (c22 : PySem.W.codeIn K cd22 "law" = true) (k22 : PySem.W.keepIn K (.ref f22) = true)
    (z0 : PySem.W.nsIn K mainGlobals "abs" = some none)
    (z1 : PySem.W.nsIn K mainGlobals "all" = some none)
    (z2 : PySem.W.nsIn K mainGlobals "bool" = some none)
    (z3 : PySem.W.nsIn K mainGlobals "int" = some none)
    (z4 : PySem.W.nsIn K mainGlobals "isinstance" = some none)
    (z5 : PySem.W.nsIn K mainGlobals "len" = some none)
    (z6 : PySem.W.nsIn K mainGlobals "list" = some none)
    (z7 : PySem.W.nsIn K mainGlobals "range" = some none)
    (z8 : PySem.W.nsIn K mainGlobals "str" = some none)
    (z9 : PySem.W.nsIn K mainGlobals "tuple" = some none)
    : ∃ fd : FuncData, (∀ (s : Shared) (v : Value), BindsTo s fd ⟨[v], []⟩ [("script", v)]) ∧ ∀ base : Heap, K.In base → base.Ns mainGlobals mg → FnOk l.prog w K mg base CX0 LV fa fd ["script"] (spD K ((Y LV).f 22).2 ((Y LV).f 22).1) := by
  have e := hfa.symm.trans (PySem.W.mg_of X G a22)
  cases e
  have m0 := PySem.W.mg_of X G a0
  have F0 := fun_mk (st := s_is_number) l0 c0 k0
  have B0 := F0.binds (ps := P_is_number) fun _ _ _ _ _ _ us hl => match us, hl with | [_], _ => rfl
  have m1 := PySem.W.mg_of X G a1
  have F1 := fun_mk (st := s_is_below) l1 c1 k1
  have B1 := F1.binds (ps := P_is_below) fun _ _ _ _ _ _ us hl => match us, hl with | [_, _], _ => rfl
  have m2 := PySem.W.mg_of X G a2
  have F2 := fun_mk (st := s_gaps_of) l2 c2 k2
  have B2 := F2.binds (ps := P_gaps_of) fun _ _ _ _ _ _ us hl => match us, hl with | [_, _], _ => rfl
  have m3 := PySem.W.mg_of X G a3
  have F3 := fun_mk (st := s_last_place) l3 c3 k3
  have B3 := F3.binds (ps := P_last_place) fun _ _ _ _ _ _ us hl => match us, hl with | [_, _], _ => rfl
  have m4 := PySem.W.mg_of X G a4
  have F4 := fun_mk (st := s_can_follow) l4 c4 k4
  have B4 := F4.binds (ps := P_can_follow) fun _ _ _ _ _ _ us hl => match us, hl with | [_, _, _], _ => rfl
  have m5 := PySem.W.mg_of X G a5
  have F5 := fun_mk (st := s_could_follow) l5 c5 k5
  have B5 := F5.binds (ps := P_could_follow) fun _ _ _ _ _ _ us hl => match us, hl with | [_, _], _ => rfl
  have m6 := PySem.W.mg_of X G a6
  have F6 := fun_mk (st := s_is_lost) l6 c6 k6
  have B6 := F6.binds (ps := P_is_lost) fun _ _ _ _ _ _ us hl => match us, hl with | [_, _], _ => rfl
  have m7 := PySem.W.mg_of X G a7
  have F7 := fun_mk (st := s_row_from) l7 c7 k7
  have B7 := F7.binds (ps := P_row_from) fun _ _ _ _ _ _ us hl => match us, hl with | [_, _, _], _ => rfl
  have m8 := PySem.W.mg_of X G a8
  have F8 := fun_mk (st := s_back_row) l8 c8 k8
  have B8 := F8.binds (ps := P_back_row) fun _ _ _ _ _ _ us hl => match us, hl with | [_, _], _ => rfl
  have m9 := PySem.W.mg_of X G a9
  have F9 := fun_mk (st := s_is_back_row) l9 c9 k9
  have B9 := F9.binds (ps := P_is_back_row) fun _ _ _ _ _ _ us hl => match us, hl with | [_, _, _], _ => rfl
  have m10 := PySem.W.mg_of X G a10
  have F10 := fun_mk (st := s_least_places) l10 c10 k10
  have B10 := F10.binds (ps := P_least_places) fun _ _ _ _ _ _ us hl => match us, hl with | [_, _], _ => rfl
  have m11 := PySem.W.mg_of X G a11
  have F11 := fun_mk (st := s__law_draws) l11 c11 k11
  have B11 := F11.binds (ps := P__law_draws) fun _ _ _ _ _ _ us hl => match us, hl with | [_, _], _ => rfl
  have m12 := PySem.W.mg_of X G a12
  have F12 := fun_mk (st := s__law_next) l12 c12 k12
  have B12 := F12.binds (ps := P__law_next) fun _ _ _ _ _ _ us hl => match us, hl with | [_, _], _ => rfl
  have m13 := PySem.W.mg_of X G a13
  have F13 := fun_mk (st := s__law_pick) l13 c13 k13
  have B13 := F13.binds (ps := P__law_pick) fun _ _ _ _ _ _ us hl => match us, hl with | [_, _], _ => rfl
  have m14 := PySem.W.mg_of X G a14
  have F14 := fun_mk (st := s__law_says) l14 c14 k14
  have B14 := F14.binds (ps := P__law_says) fun _ _ _ _ _ _ us hl => match us, hl with | [_, _], _ => rfl
  have m15 := PySem.W.mg_of X G a15
  have F15 := fun_mk (st := s__law_same) l15 c15 k15
  have B15 := F15.binds (ps := P__law_same) fun _ _ _ _ _ _ us hl => match us, hl with | [_, _], _ => rfl
  have m16 := PySem.W.mg_of X G a16
  have F16 := fun_mk (st := s__law_bent) l16 c16 k16
  have B16 := F16.binds (ps := P__law_bent) fun _ _ _ _ _ _ us hl => match us, hl with | [_, _], _ => rfl
  have m17 := PySem.W.mg_of X G a17
  have F17 := fun_mk (st := s__law_is_number) l17 c17 k17
  have B17 := F17.binds (ps := P__law_is_number) fun _ _ _ _ _ _ us hl => match us, hl with | [_], _ => rfl
  have m18 := PySem.W.mg_of X G a18
  have F18 := fun_mk (st := s__law_gaps) l18 c18 k18
  have B18 := F18.binds (ps := P__law_gaps) fun _ _ _ _ _ _ us hl => match us, hl with | [_, _], _ => rfl
  have m19 := PySem.W.mg_of X G a19
  have F19 := fun_mk (st := s__law_many) l19 c19 k19
  have B19 := F19.binds (ps := P__law_many) fun _ _ _ _ _ _ us hl => match us, hl with | [_, _], _ => rfl
  have m20 := PySem.W.mg_of X G a20
  have F20 := fun_mk (st := s__law_is_row) l20 c20 k20
  have B20 := F20.binds (ps := P__law_is_row) fun _ _ _ _ _ _ us hl => match us, hl with | [_, _, _], _ => rfl
  have m21 := PySem.W.mg_of X G a21
  have F21 := fun_mk (st := s__law_first) l21 c21 k21
  have B21 := F21.binds (ps := P__law_first) fun _ _ _ _ _ _ us hl => match us, hl with | [_, _], _ => rfl
  have m22 := PySem.W.mg_of X G a22
  have F22 := fun_mk (st := s_law) l22 c22 k22
  have B22 := F22.binds (ps := P_law) fun _ _ _ _ _ _ us hl => match us, hl with | [_], _ => rfl
  have tab : TabOk K mg gl 0 T := .cons (fd_mk m0 F0 sc_is_number B0 ck_is_number (by decide +kernel) rfl rfl) (.cons (fd_mk m1 F1 sc_is_below B1 ck_is_below (by decide +kernel) rfl rfl) (.cons (fd_mk m2 F2 sc_gaps_of B2 ck_gaps_of (by decide +kernel) rfl rfl) (.cons (fd_mk m3 F3 sc_last_place B3 ck_last_place (by decide +kernel) rfl rfl) (.cons (fd_mk m4 F4 sc_can_follow B4 ck_can_follow (by decide +kernel) rfl rfl) (.cons (fd_mk m5 F5 sc_could_follow B5 ck_could_follow (by decide +kernel) rfl rfl) (.cons (fd_mk m6 F6 sc_is_lost B6 ck_is_lost (by decide +kernel) rfl rfl) (.cons (fd_mk m7 F7 sc_row_from B7 ck_row_from (by decide +kernel) rfl rfl) (.cons (fd_mk m8 F8 sc_back_row B8 ck_back_row (by decide +kernel) rfl rfl) (.cons (fd_mk m9 F9 sc_is_back_row B9 ck_is_back_row (by decide +kernel) rfl rfl) (.cons (fd_mk m10 F10 sc_least_places B10 ck_least_places (by decide +kernel) rfl rfl) (.cons (fd_mk m11 F11 sc__law_draws B11 ck__law_draws (by decide +kernel) rfl rfl) (.cons (fd_mk m12 F12 sc__law_next B12 ck__law_next (by decide +kernel) rfl rfl) (.cons (fd_mk m13 F13 sc__law_pick B13 ck__law_pick (by decide +kernel) rfl rfl) (.cons (fd_mk m14 F14 sc__law_says B14 ck__law_says (by decide +kernel) rfl rfl) (.cons (fd_mk m15 F15 sc__law_same B15 ck__law_same (by decide +kernel) rfl rfl) (.cons (fd_mk m16 F16 sc__law_bent B16 ck__law_bent (by decide +kernel) rfl rfl) (.cons (fd_mk m17 F17 sc__law_is_number B17 ck__law_is_number (by decide +kernel) rfl rfl) (.cons (fd_mk m18 F18 sc__law_gaps B18 ck__law_gaps (by decide +kernel) rfl rfl) (.cons (fd_mk m19 F19 sc__law_many B19 ck__law_many (by decide +kernel) rfl rfl) (.cons (fd_mk m20 F20 sc__law_is_row B20 ck__law_is_row (by decide +kernel) rfl rfl) (.cons (fd_mk m21 F21 sc__law_first B21 ck__law_first (by decide +kernel) rfl rfl) (.cons (fd_mk m22 F22 sc_law B22 ck_law (by decide +kernel) rfl rfl) (.nil)))))))))))))))))))))))
  have hbl : ∀ x ∈ (["abs", "all", "bool", "int", "isinstance", "len", "list", "range", "str", "tuple"] : List Str), mg x = none := by
    intro x hx
    simp only [List.mem_cons, List.not_mem_nil, or_false] at hx
    rcases hx with rfl | rfl | rfl | rfl | rfl | rfl | rfl | rfl | rfl | rfl
    · exact PySem.W.mg_none_of X G z0
    · exact PySem.W.mg_none_of X G z1
    · exact PySem.W.mg_none_of X G z2
    · exact PySem.W.mg_none_of X G z3
    · exact PySem.W.mg_none_of X G z4
    · exact PySem.W.mg_none_of X G z5
    · exact PySem.W.mg_none_of X G z6
    · exact PySem.W.mg_none_of X G z7
    · exact PySem.W.mg_none_of X G z8
    · exact PySem.W.mg_none_of X G z9
  have hgl : GlOk K mg gl T C := {
    blt := fun x hx => hbl x (blt_of (by decide +kernel) hx)
    cst := fun x k hk => by
      have hx := cst_of (l := []) (by decide +kernel) hk
      cases hx
    fns := fun x j hj => fns_of (n := T.length) (by decide +kernel) hj }
  exact ⟨_, fun s v => .of_eq rfl, fun base _ _ => law_ok (n := 29) (j := 22) tab hgl F22 sc_law rfl ck_law rfl rfl⟩
end K31
open PySem PySem.W PyProof.Rows
set_option maxHeartbeats 0 in
theorem PySem.Challenge.cw_teachwarrant_k31_topics_that_come_back_holds : PySem.Challenge.rw_teachwarrant_k31_topics_that_come_back.Holds := by
  w_on; o_law; k_head; (case hw => w_witness2)
  k_fill
  refine L2.walk_of (l := PySem.Challenge.rw_teachwarrant_k31_topics_that_come_back) (n := 63) (k := K31.LV) (x := "script") (CX := fun _ => L2.CX0) (sp := fun w => Pf.spD _ ((K31.Y K31.LV).f 22).2 ((K31.Y K31.LV).f 22).1) rfl (by decide) rfl ⟨rfl, by decide, by decide⟩ (fun w h Y => PySem.W.kIn_of Y) ?F (fun _ _ a ns hl _ hS => (Pf.law_sp hS (K31.law_true ns hl).choose_spec)) (fun _ _ _ _ _ h => h)
  case F =>
    intro w mg fa h KX G hmg
    refine' K31.all_mk KX G hmg ?a0 ?l0 ?c0 ?k0 ?a1 ?l1 ?c1 ?k1 ?a2 ?l2 ?c2 ?k2 ?a3 ?l3 ?c3 ?k3 ?a4 ?l4 ?c4 ?k4 ?a5 ?l5 ?c5 ?k5 ?a6 ?l6 ?c6 ?k6 ?a7 ?l7 ?c7 ?k7 ?a8 ?l8 ?c8 ?k8 ?a9 ?l9 ?c9 ?k9 ?a10 ?l10 ?c10 ?k10 ?a11 ?l11 ?c11 ?k11 ?a12 ?l12 ?c12 ?k12 ?a13 ?l13 ?c13 ?k13 ?a14 ?l14 ?c14 ?k14 ?a15 ?l15 ?c15 ?k15 ?a16 ?l16 ?c16 ?k16 ?a17 ?l17 ?c17 ?k17 ?a18 ?l18 ?c18 ?k18 ?a19 ?l19 ?c19 ?k19 ?a20 ?l20 ?c20 ?k20 ?a21 ?l21 ?c21 ?k21 ?a22 ?l22 ?c22 ?k22 ?z0 ?z1 ?z2 ?z3 ?z4 ?z5 ?z6 ?z7 ?z8 ?z9
    (case a0 => k_is); (case l0 => k_is); (case c0 => k_is); (case k0 => k_is); (case a1 => k_is); (case l1 => k_is); (case c1 => k_is); (case k1 => k_is); (case a2 => k_is); (case l2 => k_is); (case c2 => k_is); (case k2 => k_is); (case a3 => k_is); (case l3 => k_is); (case c3 => k_is); (case k3 => k_is); (case a4 => k_is); (case l4 => k_is); (case c4 => k_is); (case k4 => k_is); (case a5 => k_is); (case l5 => k_is); (case c5 => k_is); (case k5 => k_is); (case a6 => k_is); (case l6 => k_is); (case c6 => k_is); (case k6 => k_is); (case a7 => k_is); (case l7 => k_is); (case c7 => k_is); (case k7 => k_is); (case a8 => k_is); (case l8 => k_is); (case c8 => k_is); (case k8 => k_is); (case a9 => k_is); (case l9 => k_is); (case c9 => k_is); (case k9 => k_is); (case a10 => k_is); (case l10 => k_is); (case c10 => k_is); (case k10 => k_is); (case a11 => k_is); (case l11 => k_is); (case c11 => k_is); (case k11 => k_is); (case a12 => k_is); (case l12 => k_is); (case c12 => k_is); (case k12 => k_is); (case a13 => k_is); (case l13 => k_is); (case c13 => k_is); (case k13 => k_is); (case a14 => k_is); (case l14 => k_is); (case c14 => k_is); (case k14 => k_is); (case a15 => k_is); (case l15 => k_is); (case c15 => k_is); (case k15 => k_is); (case a16 => k_is); (case l16 => k_is); (case c16 => k_is); (case k16 => k_is); (case a17 => k_is); (case l17 => k_is); (case c17 => k_is); (case k17 => k_is); (case a18 => k_is); (case l18 => k_is); (case c18 => k_is); (case k18 => k_is); (case a19 => k_is); (case l19 => k_is); (case c19 => k_is); (case k19 => k_is); (case a20 => k_is); (case l20 => k_is); (case c20 => k_is); (case k20 => k_is); (case a21 => k_is); (case l21 => k_is); (case c21 => k_is); (case k21 => k_is); (case a22 => k_is); (case l22 => k_is); (case c22 => k_is); (case k22 => k_is); (case z0 => k_is); (case z1 => k_is); (case z2 => k_is); (case z3 => k_is); (case z4 => k_is); (case z5 => k_is); (case z6 => k_is); (case z7 => k_is); (case z8 => k_is); (case z9 => k_is)
