import PyProof.Rows.All
import Wide.All
import OpenK.AllK
import Wide.FinOn
import HandS.ForMost
import HandS.Wide
import HandS.TupAny
import HandS.TupMul
import HandS.Deep
import HandS.IsInst
import HandS.Zip
import HandS.Style
import HandS.More
import HandS.SetFor
import HandS.Conv
import HandS.Iter
import KE.DataFind
import HandS.Strs
import KE.SortData
import HandS.Ends
import PySem.Challenge.RW_teachwarrant_k26_rules_of_degrees
set_option Elab.async false
set_option linter.all false
set_option maxRecDepth 100000
set_option maxHeartbeats 2000000
/-! tuples whose one object is known: a new tuple has no dict -/
namespace Pf
open PySem L2

def tupO (its : List Value) : Obj := { cls := .type "tuple", data := .seq its.toArray }
/-- a tuple without a dict, frozen or of the top -/
def TupX (K : PySem.W.Frag) (G : Hp) (a : Addr) (xs : List V) : Prop :=
  (∃ its, G a = some (.frz (tupO its) (.tup xs))) ∨ ∃ (its : Array Value) (n : Nat) (sl : Array (Option Value)), K.lookup a = some ⟨.type "tuple", none, .seq its n, sl⟩ ∧ its.size ≤ sizeLine ∧ Vals xs its.toList
theorem TupX.sq {K : PySem.W.Frag} {G : Hp} {a : Addr} {xs : List V} (h : TupX K G a xs) : SqT K G a xs := by
  rcases h with ⟨its, h⟩ | ⟨its, n, sl, h1, h2, h3⟩
  · exact .inl (.inr ⟨_, h⟩)
  · exact .inr ⟨_, its, n, h1, rfl, rfl, h2, h3⟩
section
variable {X : Cx} {pins : List (Addr × Obj)} {σ : L2.St} {H : Hp} {s : Shared}
theorem layT (I : Inv X pins σ H s) {h' : Heap} {its : List Value} {xs : List V} {tk : Nat} (kp : ∀ b u, s.heap.get? b = some u → h'.get? b = some u) (hp : s.heap.objs.size ≤ h'.objs.size) (r : Vals xs its) (hz : xs.length ≤ sizeLine) :
    Inv X pins σ (upd H h'.objs.size (.frz (tupO its) (.tup xs))) { s with heap := h'.push (tupO its), toks := tk } ∧ H h'.objs.size = none :=
  ⟨I.laid (fun b u e => Heap.get?_push_of_some _ (kp b u e)) hp ⟨Heap.get?_push_size _ rfl, hz, its, r, PyProof.Rows.IsTup.new _ _⟩, I.hok.fresh hp⟩
/-- the dict of such a tuple -/
theorem TupX.bare (I : Inv X pins σ H s) {a : Addr} {xs : List V} (h : TupX X.K H a xs) : ∃ o, s.heap.get? a = some o ∧ o.cls = .type "tuple" ∧ o.dict = none ∧ ∃ its n, o.data = .seq its n ∧ Vals xs its.toList := by
  rcases h with ⟨its, h⟩ | ⟨its, n, sl, h1, h2, h3⟩
  · obtain ⟨e, _, its2, r, ⟨o, e2, _, n2, d2⟩⟩ := I.hok a _ h
    rw [e] at e2
    cases e2
    have d3 : its.toArray = its2.toArray := (PySem.Data.seq.inj d2).1
    refine ⟨_, e, rfl, rfl, its.toArray, _, rfl, ?_⟩
    rw [d3]
    exact r
  · exact ⟨_, I.kIn a _ h1, rfl, rfl, its, n, rfl, h3⟩
end
section
variable {X : Cx} {es : List Expr} {t : TA} {pos : Pos}
/-- (a, b, ..) -/
def tTupX (t : TA) : TE := fun σ H Q => t σ H fun xs H1 => xs.length ≤ sizeLine ∧ ∀ p its, H1 p = none → Q (.ref p) (upd H1 p (.frz (tupO its) (.tup xs)))
theorem peX_tup {k : Nat} (h : PA X es t) : PE X (.Tuple es k pos) (tTupX t) := ⟨fun pins s σ H Q I hq => by
  refine wpAny_Tuple_spliced (thn (h.run pos pins s σ H _ I hq) fun us s1 y => ?_)
  obtain ⟨xs, H1, I1, r, z, q⟩ := y
  obtain ⟨I2, f⟩ := layT (tk := s1.toks) I1 (h' := s1.heap) (fun _ _ e => e) (Nat.le_refl _) r z
  exact ⟨by rw [← r.length]; exact z, V.ref _, _, I2, rfl, q _ _ f⟩⟩
/-- t + u -/
def rCatX (K : PySem.W.Frag) : R2 := fun x y H Q => ∃ a b xs ys, x = .ref a ∧ y = .ref b ∧ SqT K H a xs ∧ SqT K H b ys ∧ xs.length + ys.length ≤ sizeLine ∧
  (xs = [] → Q (.ref b) H) ∧ (xs ≠ [] → ys = [] → Q (.ref a) H) ∧ (xs ≠ [] → ys ≠ [] → ∀ p its, H p = none → Q (.ref p) (upd H p (.frz (tupO its) (.tup (xs ++ ys)))))
theorem opX_cat : OpR X (binaryOp .Add) (rCatX X.K) := fun pins s σ H x y v u Q I rx ry h => by
  obtain ⟨a, b, xs, ys, e1, e2, ha, hb, hz, q0, q1, q2⟩ := h
  subst e1 e2
  cases rx
  cases ry
  obtain ⟨vs, r, p, _⟩ := I.tuple ha
  obtain ⟨ws, r', p', _⟩ := I.tuple hb
  by_cases hx : xs = []
  · have e : vs = [] := r.nil_iff.mpr hx
    subst e
    exact cat_tup0 p p' ⟨V.ref _, H, I, rfl, q0 hx⟩
  · refine HT.cat_tup p p' (fun z => hx (r.nil_iff.mp z)) (fun z => ⟨V.ref _, H, I, rfl, q1 hx (r'.nil_iff.mp z)⟩) (fun z => ?_) (by rw [← r.length, ← r'.length]; exact hz)
    obtain ⟨I2, f⟩ := layT (tk := s.toks) I (h' := s.heap) (fun _ _ e => e) (Nat.le_refl _) (r.append r') (by rw [List.length_append]; exact hz)
    exact ⟨V.ref _, _, I2, rfl, q2 hx (fun w => z (r'.nil_iff.mpr w)) _ _ f⟩
/-- t[lo:hi] -/
def rSlX (K : PySem.W.Frag) : V → Option Int → Option Int → Hp → VK → Prop := fun x lo hi H Q => ∃ a xs, x = .ref a ∧ SqT K H a xs ∧
  (HT.sIx xs.length 0 lo = 0 ∧ HT.sIx xs.length xs.length hi = xs.length → Q (.ref a) H) ∧ ∀ p its, H p = none → Q (.ref p) (upd H p (.frz (tupO its) (.tup (cutV xs lo hi))))
theorem slX_tup : SlR X (rSlX X.K) := fun pins s σ H x v vl vu lo hi sl Q I rx hs pl pu h => by
  obtain ⟨a, xs, e, hx, q1, q2⟩ := h
  subst e
  cases rx
  obtain ⟨vs, r, p, hz⟩ := I.tuple hx
  have hl : vs.toArray.size = xs.length := (List.size_toArray).trans r.length.symm
  refine ⟨"tuple", _, PyProof.Rows.slot_tuple_getitem.lookup, p.typeIs, ?_⟩
  by_cases hw : HT.sIx xs.length 0 lo = 0 ∧ HT.sIx xs.length xs.length hi = xs.length
  · exact getItem_tuple_whole p hs pl pu (hl ▸ hw) ⟨V.ref _, H, I, rfl, q1 hw⟩
  · refine HT.getItem_tuple_cut p hs pl pu (hl ▸ hw) ?_ (hl ▸ hz)
    rw [hl]
    obtain ⟨I2, f⟩ := layT (tk := s.toks) I (h' := s.heap) (fun _ _ e => e) (Nat.le_refl _) (its := (vs.drop (HT.sIx xs.length 0 lo)).take (HT.sIx xs.length xs.length hi - HT.sIx xs.length 0 lo)) (xs := cutV xs lo hi) ((r.drop _).take _) (Nat.le_trans (cutV_length xs lo hi) hz)
    exact ⟨V.ref _, _, I2, rfl, q2 _ _ f⟩
/-- tuple(x) of a list, of a tuple -/
theorem callX_tuple : CallR X (.type "tuple") (fun xs H Q => ∃ p ys, xs = [.ref p] ∧ ((SqL X.K H p ys ∧ ∀ l its, H l = none → Q (.ref l) (upd H l (.frz (tupO its) (.tup ys)))) ∨ (SqT X.K H p ys ∧ Q (.ref p) H))) := fun pins s σ H xs us Q I r h => by
  obtain ⟨p, ys, e, h⟩ := h
  subst e
  obtain ⟨u, rfl, rx⟩ := vals1 r
  cases rx
  rcases h with ⟨hq, q⟩ | ⟨hq, q⟩
  · obtain ⟨vs, r1, pl, hz⟩ := I.list hq
    refine call_tuple_list pl.isList (fun h' kp => ?_) (by rw [List.size_toArray, ← r1.length]; exact hz)
    have I1 : Inv X pins σ H { s with heap := h' } := I.kept (t' := s.toks) kp
    obtain ⟨I2, f⟩ := layT (tk := s.toks) I1 (h' := h') (fun _ _ e => e) (Nat.le_refl _) r1 hz
    exact ⟨V.ref _, _, I2, rfl, q _ _ f⟩
  · obtain ⟨vs, _, pt, _⟩ := I.tuple hq
    exact call_tuple_same pt ⟨V.ref _, H, I, rfl, q⟩
end
end Pf

/-! Pf: a def's run told by plain data. Values, operations, the relation between slots and data. -/
namespace Pf
open PySem L2

abbrev D := PyData
/-- what a slot holds: data; a dict that no one changes; a list, a dict of its own (p: a parameter that the caller keeps); a list that is read alone (the script) -/
inductive SV where
  | dat (d : D)
  | fdic (kvs : List (Key × D))
  | kdic (kvs : List (Key × D))
  | olst (ds : List D)
  | odic (p : Bool) (kvs : List (Key × D))
  | rlst (ds : List D)
abbrev En := List (Option SV)
def ownB : SV → Bool
  | .olst _ => true
  | .odic _ _ => true
  | _ => false

/-! ### representation -/
/-- what is frozen stands so (a dict may be locked while it is walked) -/
def GH (G H : Hp) : Prop := ∀ a u, G a = some u → H a = some u ∨ ∃ kvs o, u = .dK kvs ∧ H a = some (.frz o u)
def Ex (G G' : Hp) : Prop := ∀ a u, G a = some u → G' a = some u
theorem Ex.refl (G : Hp) : Ex G G := fun _ _ h => h
theorem Ex.trans {G G1 G2 : Hp} (a : Ex G G1) (b : Ex G1 G2) : Ex G G2 := fun x u h => b x u (a x u h)
theorem Ex.rd {G G' : Hp} (e : Ex G G') {a : Addr} {u : HO} (h : Rd G a u) : Rd G' a u := by
  rcases h with h | ⟨o, h⟩
  · exact .inl (e _ _ h)
  · exact .inr ⟨o, e _ _ h⟩
theorem GH.rd {G H : Hp} (e : GH G H) {a : Addr} {u : HO} (h : Rd G a u) : Rd H a u := by
  rcases h with h | ⟨o, h⟩
  · rcases e _ _ h with z | ⟨_, o, _, z⟩
    · exact .inl z
    · exact .inr ⟨o, z⟩
  · rcases e _ _ h with z | ⟨_, _, q, _⟩
    · exact .inr ⟨o, z⟩
    · cases q
theorem GH.lst {G H : Hp} (e : GH G H) {a : Addr} {xs : List V} (h : G a = some (.lst xs)) : H a = some (.lst xs) := by
  rcases e _ _ h with z | ⟨_, _, q, _⟩
  · exact z
  · cases q
mutual
inductive DP (K : PySem.W.Frag) (G : Hp) : V → D → Prop
  | non : DP K G .non .none
  | bl (b : Bool) : DP K G (.bl b) (.bool b)
  | int (i : Int) : DP K G (.int i) (.int i)
  | str (x : Str) : DP K G (.str x) (.str x)
  | lst {a : Addr} {xs : List V} {ds : List D} : G a = some (.lst xs) → DPs K G xs ds → DP K G (.ref a) (.list ds)
  | tup {a : Addr} {xs : List V} {ds : List D} : TupX K G a xs → DPs K G xs ds → DP K G (.ref a) (.tuple ds)
inductive DPs (K : PySem.W.Frag) (G : Hp) : List V → List D → Prop
  | nil : DPs K G [] []
  | cons {v : V} {vs : List V} {d : D} {ds : List D} : DP K G v d → DPs K G vs ds → DPs K G (v :: vs) (d :: ds)
end
section
variable {K : PySem.W.Frag} {G G' H H' : Hp}
theorem seqT_ex {a : Addr} {xs : List V} (g : Ex G H) (h : SqT K G a xs) : SqT K H a xs := h.elim (fun z => .inl (g.rd z)) .inr
theorem tupX_ex {a : Addr} {xs : List V} (g : Ex G H) (h : TupX K G a xs) : TupX K H a xs := h.elim (fun ⟨its, z⟩ => .inl ⟨its, g _ _ z⟩) .inr
theorem seqT_gh {a : Addr} {xs : List V} (g : GH G H) (h : SqT K G a xs) : SqT K H a xs := h.elim (fun z => .inl (g.rd z)) .inr
mutual
theorem dp_ex (g : Ex G H) : ∀ (d : D) (v : V), DP K G v d → DP K H v d
  | .none, _, h => by cases h; exact .non
  | .bool b, _, h => by cases h; exact .bl b
  | .int i, _, h => by cases h; exact .int i
  | .str x, _, h => by cases h; exact .str x
  | .list ds, _, h => by
    cases h with
    | lst hs ha => exact .lst (g _ _ hs) (dps_ex g ds _ ha)
  | .tuple ds, _, h => by
    cases h with
    | tup hs ha => exact .tup (tupX_ex g hs) (dps_ex g ds _ ha)
  | .dict _, _, h => by cases h
theorem dps_ex (g : Ex G H) : ∀ (ds : List D) (vs : List V), DPs K G vs ds → DPs K H vs ds
  | [], _, h => by cases h; exact .nil
  | d :: ds, _, h => by
    cases h with
    | cons h1 h2 => exact .cons (dp_ex g d _ h1) (dps_ex g ds _ h2)
end
mutual
theorem dp_dp (g : GH G H) : ∀ (d : D) (v : V), DP K G v d → Dp K H v d
  | .none, _, h => by cases h; exact .non
  | .bool b, _, h => by cases h; exact .bl b
  | .int i, _, h => by cases h; exact .int i
  | .str x, _, h => by cases h; exact .str x
  | .list ds, _, h => by
    cases h with
    | lst hs ha => exact .lst (SqL.of (g.lst hs)) (dps_dp g ds _ ha)
  | .tuple ds, _, h => by
    cases h with
    | tup hs ha => exact .tup (seqT_gh g hs.sq) (dps_dp g ds _ ha)
  | .dict _, _, h => by cases h
theorem dps_dp (g : GH G H) : ∀ (ds : List D) (vs : List V), DPs K G vs ds → DpAll K H vs ds
  | [], _, h => by cases h; exact .nil
  | d :: ds, _, h => by
    cases h with
    | cons h1 h2 => exact .cons (dp_dp g d _ h1) (dps_dp g ds _ h2)
end
theorem DPs.length : ∀ {vs : List V} {ds : List D}, DPs K G vs ds → vs.length = ds.length
  | _, _, .nil => rfl
  | _, _, .cons _ t => congrArg Nat.succ (DPs.length t)
theorem DPs.get : ∀ {vs : List V} {ds : List D} {i : Nat} {d : D}, DPs K G vs ds → ds[i]? = some d → ∃ v, vs[i]? = some v ∧ DP K G v d
  | _, _, _, _, .nil, e => by simp at e
  | _, _, 0, _, .cons r _, e => by simp at e; subst e; exact ⟨_, rfl, r⟩
  | _, _, i + 1, d, .cons _ t, e => by
    obtain ⟨u, h1, h2⟩ := DPs.get (i := i) (d := d) t (by simpa using e)
    exact ⟨u, by simpa using h1, h2⟩
theorem DPs.get' : ∀ {vs : List V} {ds : List D} {i : Nat} {v : V}, DPs K G vs ds → vs[i]? = some v → ∃ d, ds[i]? = some d ∧ DP K G v d
  | _, _, _, _, .nil, e => by simp at e
  | _, _, 0, _, .cons r _, e => by simp at e; subst e; exact ⟨_, rfl, r⟩
  | _, _, i + 1, d, .cons _ t, e => by
    obtain ⟨u, h1, h2⟩ := DPs.get' (i := i) (v := d) t (by simpa using e)
    exact ⟨u, by simpa using h1, h2⟩
theorem DPs.append : ∀ {vs ws : List V} {ds es : List D}, DPs K G vs ds → DPs K G ws es → DPs K G (vs ++ ws) (ds ++ es)
  | _, _, _, _, .nil, s => s
  | _, _, _, _, .cons r t, s => .cons r (DPs.append t s)
theorem DPs.take : ∀ {vs : List V} {ds : List D} (n : Nat), DPs K G vs ds → DPs K G (vs.take n) (ds.take n)
  | _, _, 0, _ => .nil
  | _, _, _ + 1, .nil => .nil
  | _, _, n + 1, .cons r t => .cons r (DPs.take n t)
theorem DPs.drop : ∀ {vs : List V} {ds : List D} (n : Nat), DPs K G vs ds → DPs K G (vs.drop n) (ds.drop n)
  | _, _, 0, r => r
  | _, _, _ + 1, .nil => .nil
  | _, _, n + 1, .cons _ t => DPs.drop n t
theorem DPs.set {v : V} {d : D} (r : DP K G v d) : ∀ {vs : List V} {ds : List D} (i : Nat), DPs K G vs ds → DPs K G (vs.set i v) (ds.set i d)
  | _, _, _, .nil => .nil
  | _, _, 0, .cons _ t => .cons r t
  | _, _, i + 1, .cons q t => .cons q (DPs.set r i t)
theorem DPs.reverse : ∀ {vs : List V} {ds : List D}, DPs K G vs ds → DPs K G vs.reverse ds.reverse
  | _, _, .nil => .nil
  | _, _, .cons r t => by
    rw [List.reverse_cons, List.reverse_cons]
    exact DPs.append (DPs.reverse t) (.cons r .nil)
theorem DPs.erase : ∀ {vs : List V} {ds : List D} (i : Nat), DPs K G vs ds → DPs K G (vs.eraseIdx i) (ds.eraseIdx i)
  | _, _, _, .nil => .nil
  | _, _, 0, .cons _ t => t
  | _, _, i + 1, .cons r t => .cons r (DPs.erase i t)
theorem DPs.rep {vs : List V} {ds : List D} (h : DPs K G vs ds) : ∀ k : Nat, DPs K G (List.replicate k vs).flatten (List.replicate k ds).flatten
  | 0 => .nil
  | k + 1 => by
    rw [List.replicate_succ, List.replicate_succ, List.flatten_cons, List.flatten_cons]
    exact DPs.append h (DPs.rep h k)
/-- lists of ints, of bools -/
theorem DPs.ints : ∀ {vs : List V} {ns : List Int}, DPs K G vs (ns.map PyData.int) → vs = ns.map V.int
  | [], [], _ => rfl
  | _ :: _, [], h => by cases h
  | [], _ :: _, h => by cases h
  | _ :: _, n :: ns, h => by
    cases h with
    | cons r t =>
      cases r
      rw [DPs.ints t]
      rfl
theorem DPs.bools : ∀ {vs : List V} {ns : List Bool}, DPs K G vs (ns.map PyData.bool) → vs = ns.map V.bl
  | [], [], _ => rfl
  | _ :: _, [], h => by cases h
  | [], _ :: _, h => by cases h
  | _ :: _, n :: ns, h => by
    cases h with
    | cons r t =>
      cases r
      rw [DPs.bools t]
      rfl
theorem DPs.of_ints : ∀ (ns : List Int), DPs K G (ns.map V.int) (ns.map PyData.int)
  | [] => .nil
  | n :: ns => .cons (.int n) (DPs.of_ints ns)
end
/-- a dict's pairs -/
def KD (K : PySem.W.Frag) (G : Hp) : List (Key × V) → List (Key × D) → Prop := Paired fun p q => p.1 = q.1 ∧ DP K G p.2 q.2
theorem KD.ex {K : PySem.W.Frag} {G H : Hp} (g : Ex G H) {ks : List (Key × V)} {kvs : List (Key × D)} (h : KD K G ks kvs) : KD K H ks kvs := Paired.mapP h fun _ _ z => ⟨z.1, dp_ex g _ _ z.2⟩

/-- a value of an expression -/
def VR (K : PySem.W.Frag) (G : Hp) (v : V) : SV → Prop
  | .dat d => DP K G v d
  | .fdic kvs => ∃ a ks, v = .ref a ∧ G a = some (.dK ks) ∧ KD K G ks kvs
  | .kdic kvs => ∃ a o ks, v = .ref a ∧ G a = some (.frz o (.dK ks)) ∧ KD K G ks kvs
  | .rlst ds => ∃ a vs, v = .ref a ∧ SqL K G a vs ∧ DPs K G vs ds
  | _ => False
/-- a slot's -/
def SR (K : PySem.W.Frag) (G H : Hp) (v : V) : SV → Prop
  | .dat d => DP K G v d
  | .fdic kvs => ∃ a ks, v = .ref a ∧ G a = some (.dK ks) ∧ KD K G ks kvs
  | .kdic kvs => ∃ a o ks, v = .ref a ∧ G a = some (.frz o (.dK ks)) ∧ KD K G ks kvs
  | .rlst ds => ∃ a vs, v = .ref a ∧ SqL K G a vs ∧ DPs K G vs ds
  | .olst ds => ∃ a vs, v = .ref a ∧ H a = some (.lst vs) ∧ G a = none ∧ DPs K G vs ds
  | .odic _ kvs => ∃ a ks, v = .ref a ∧ H a = some (.dK ks) ∧ G a = none ∧ KD K G ks kvs
theorem seqL_ex {K : PySem.W.Frag} {G H : Hp} {a : Addr} {xs : List V} (g : Ex G H) (h : SqL K G a xs) : SqL K H a xs := h.elim (fun z => .inl (g.rd z)) .inr
theorem seqL_gh {K : PySem.W.Frag} {G H : Hp} {a : Addr} {xs : List V} (g : GH G H) (h : SqL K G a xs) : SqL K H a xs := h.elim (fun z => .inl (g.rd z)) .inr
theorem VR.ex {K : PySem.W.Frag} {G G' : Hp} (g : Ex G G') {v : V} : ∀ {sv : SV}, VR K G v sv → VR K G' v sv
  | .dat d, h => dp_ex g d v h
  | .fdic kvs, ⟨a, ks, e, r, k⟩ => ⟨a, ks, e, g _ _ r, k.ex g⟩
  | .kdic kvs, ⟨a, o, ks, e, r, k⟩ => ⟨a, o, ks, e, g _ _ r, k.ex g⟩
  | .rlst ds, ⟨a, vs, e, r, k⟩ => ⟨a, vs, e, seqL_ex g r, dps_ex g _ _ k⟩
  | .olst _, h => h
  | .odic _ _, h => h
theorem VR.sr {K : PySem.W.Frag} {G H : Hp} {v : V} : ∀ {sv : SV}, VR K G v sv → SR K G H v sv
  | .dat _, h => h
  | .fdic _, h => h
  | .kdic _, h => h
  | .rlst _, h => h
  | .olst _, h => h.elim
  | .odic _ _, h => h.elim
theorem VR.not_own {K : PySem.W.Frag} {G : Hp} {v : V} : ∀ {sv : SV}, VR K G v sv → ownB sv = false
  | .dat _, _ => rfl
  | .fdic _, _ => rfl
  | .kdic _, _ => rfl
  | .rlst _, _ => rfl
  | .olst _, h => h.elim
  | .odic _ _, h => h.elim
theorem SR.vr {K : PySem.W.Frag} {G H : Hp} {v : V} : ∀ {sv : SV}, SR K G H v sv → ownB sv = false → VR K G v sv
  | .dat _, h, _ => h
  | .fdic _, h, _ => h
  | .kdic _, h, _ => h
  | .rlst _, h, _ => h
  | .olst _, _, h => nomatch h
  | .odic _ _, _, h => nomatch h
theorem SR.own_at {K : PySem.W.Frag} {G H : Hp} {v : V} : ∀ {sv : SV}, SR K G H v sv → ownB sv = true → ∃ a, v = .ref a ∧ H a ≠ none ∧ G a = none
  | .olst _, ⟨a, vs, e, h, g, _⟩, _ => ⟨a, e, by rw [h]; exact Option.some_ne_none _, g⟩
  | .odic _ _, ⟨a, vs, e, h, g, _⟩, _ => ⟨a, e, by rw [h]; exact Option.some_ne_none _, g⟩
  | .dat _, _, h => nomatch h
  | .fdic _, _, h => nomatch h
  | .kdic _, _, h => nomatch h
  | .rlst _, _, h => nomatch h
/-- .. carried: G grows, but not at the own address; H stands there -/
theorem SR.carry {K : PySem.W.Frag} {G G' H H' : Hp} (g : Ex G G') {v : V} {sv : SV} (h : SR K G H v sv)
    (c : ∀ a o, ownB sv = true → v = .ref a → H a = some o → G a = none → H' a = some o ∧ G' a = none) : SR K G' H' v sv := by
  cases sv with
  | dat d => exact dp_ex g d v h
  | fdic kvs => exact VR.ex (sv := .fdic kvs) g h
  | kdic kvs => exact VR.ex (sv := .kdic kvs) g h
  | rlst ds => exact VR.ex (sv := .rlst ds) g h
  | olst ds =>
    obtain ⟨a, vs, e, h1, h2, h3⟩ := h
    obtain ⟨c1, c2⟩ := c a _ rfl e h1 h2
    exact ⟨a, vs, e, c1, c2, dps_ex g ds vs h3⟩
  | odic p kvs =>
    obtain ⟨a, vs, e, h1, h2, h3⟩ := h
    obtain ⟨c1, c2⟩ := c a _ rfl e h1 h2
    exact ⟨a, vs, e, c1, c2, h3.ex g⟩

/-- the addresses that the slots own -/
def Own (σ : L2.St) (en : En) (b : Addr) : Prop := ∃ (i : Nat) (sv : SV), en[i]? = some (some sv) ∧ ownB sv = true ∧ σ[i]? = some (some (V.ref b))
structure Rel (K : PySem.W.Frag) (G H : Hp) (σ : L2.St) (en : En) : Prop where
  gh : GH G H
  len : en.length = σ.length
  slot : ∀ (i : Nat) (sv : SV), en[i]? = some (some sv) → ∃ v, σ[i]? = some (some v) ∧ SR K G H v sv
  sep : ∀ (i j : Nat) (sv sv' : SV) (v : V), en[i]? = some (some sv) → en[j]? = some (some sv') → ownB sv = true → ownB sv' = true → σ[i]? = some (some v) → σ[j]? = some (some v) → i = j
theorem Rel.own {K : PySem.W.Frag} {G H : Hp} {σ : L2.St} {en : En} (R : Rel K G H σ en) {b : Addr} (o : Own σ en b) : H b ≠ none ∧ G b = none := by
  obtain ⟨i, sv, e, w, f⟩ := o
  obtain ⟨v, f', s⟩ := R.slot i sv e
  rw [f] at f'
  cases f'
  obtain ⟨a, e', h⟩ := s.own_at w
  cases e'
  exact h
/-- a step of a def's run -/
structure Stp (K : PySem.W.Frag) (σ : L2.St) (G H : Hp) (en : En) (σ' : L2.St) (G' H' : Hp) (en' : En) : Prop where
  rel : Rel K G' H' σ' en'
  ex : Ex G G'
  frame : ∀ b o, H b = some o → ¬ Own σ en b → H' b = some o
  live : ∀ b, H b ≠ none → H' b ≠ none
  fresh : ∀ b, G' b ≠ none → G b ≠ none ∨ H b = none ∨ Own σ en b
  sub : ∀ b, Own σ' en' b → Own σ en b ∨ H b = none
  prot : ∀ (i : Nat) kvs, en[i]? = some (some (SV.odic true kvs)) → σ'[i]? = σ[i]? ∧ ∃ kvs', en'[i]? = some (some (SV.odic true kvs'))
section
variable {K : PySem.W.Frag} {σ σ1 σ2 : L2.St} {G G1 G2 H H1 H2 : Hp} {en en1 en2 : En}
theorem Stp.refl (R : Rel K G H σ en) : Stp K σ G H en σ G H en :=
  ⟨R, Ex.refl G, fun _ _ h _ => h, fun _ h => h, fun _ h => .inl h, fun _ h => .inl h, fun i kvs h => ⟨rfl, kvs, h⟩⟩
theorem Stp.trans (a : Stp K σ G H en σ1 G1 H1 en1) (b : Stp K σ1 G1 H1 en1 σ2 G2 H2 en2) : Stp K σ G H en σ2 G2 H2 en2 where
  rel := b.rel
  ex := a.ex.trans b.ex
  frame := fun x o h n => b.frame x o (a.frame x o h n) fun z => (a.sub x z).elim n fun q => by rw [q] at h; cases h
  live := fun x h => b.live x (a.live x h)
  fresh := fun x h => by
    rcases b.fresh x h with z | z | z
    · exact a.fresh x z
    · exact .inr (.inl (Classical.byContradiction fun q => a.live x q z))
    · exact (a.sub x z).elim (fun q => .inr (.inr q)) fun q => .inr (.inl q)
  sub := fun x h => (b.sub x h).elim (a.sub x) fun q => .inr (Classical.byContradiction fun z => a.live x z q)
  prot := fun i kvs h => by
    obtain ⟨e1, kv1, f1⟩ := a.prot i kvs h
    obtain ⟨e2, kv2, f2⟩ := b.prot i kv1 f1
    exact ⟨e2.trans e1, kv2, f2⟩
end
/-- a step that writes nothing that stood -/
structure Pst (G H G' H' : Hp) : Prop where
  gh : GH G' H'
  ex : Ex G G'
  frame : ∀ b o, H b = some o → H' b = some o
  fresh : ∀ b, G' b ≠ none → G b ≠ none ∨ H b = none
section
variable {K : PySem.W.Frag} {σ : L2.St} {G G1 G2 H H1 H2 : Hp} {en : En}
theorem Pst.refl (g : GH G H) : Pst G H G H := ⟨g, Ex.refl G, fun _ _ h => h, fun _ h => .inl h⟩
theorem Pst.free (p : Pst G H G1 H1) {b : Addr} (h : H1 b = none) : H b = none := by
  cases e : H b with
  | none => rfl
  | some o => rw [p.frame b o e] at h; cases h
theorem Pst.trans (a : Pst G H G1 H1) (b : Pst G1 H1 G2 H2) : Pst G H G2 H2 :=
  ⟨b.gh, a.ex.trans b.ex, fun x o h => b.frame x o (a.frame x o h), fun x h => (b.fresh x h).elim (a.fresh x) fun q => .inr (a.free q)⟩
theorem Pst.rel (p : Pst G H G1 H1) (R : Rel K G H σ en) : Rel K G1 H1 σ en where
  gh := p.gh
  len := R.len
  slot := fun i sv e => by
    obtain ⟨v, f, s⟩ := R.slot i sv e
    refine ⟨v, f, s.carry p.ex fun a o _ _ ha ga => ⟨p.frame a o ha, ?_⟩⟩
    cases q : G1 a with
    | none => rfl
    | some u =>
      rcases p.fresh a (by rw [q]; exact Option.some_ne_none _) with z | z
      · exact absurd ga z
      · rw [z] at ha; cases ha
  sep := R.sep
theorem Pst.stp (p : Pst G H G1 H1) (R : Rel K G H σ en) : Stp K σ G H en σ G1 H1 en :=
  ⟨p.rel R, p.ex, fun b o h _ => p.frame b o h, fun b h => by
    cases e : H b with
    | none => exact absurd e h
    | some o => rw [p.frame b o e]; exact Option.some_ne_none _, fun b h => (p.fresh b h).imp id .inl, fun _ h => .inl h, fun i kvs h => ⟨rfl, kvs, h⟩⟩
theorem GH.free {G H : Hp} (g : GH G H) {p : Addr} (h : H p = none) : G p = none := by
  cases e : G p with
  | none => rfl
  | some u =>
    rcases g p u e with z | ⟨_, o, _, z⟩
    · rw [h] at z; cases z
    · rw [h] at z; cases z
/-- H grows at a free place -/
theorem GH.lay {G H : Hp} (g : GH G H) {p : Addr} {o : HO} (h : H p = none) : GH G (upd H p o) := fun a u e => by
  have ne : a ≠ p := fun z => by rw [z, g.free h] at e; cases e
  rw [upd_ne ne]
  exact g a u e
/-- what stands and is not frozen is frozen -/
theorem GH.freeze {G H : Hp} (g : GH G H) {p : Addr} {o : HO} (h : H p = some o) : GH (upd G p o) H := fun a u e => by
  by_cases z : a = p
  · subst z
    rw [upd_same] at e
    exact .inl (h.trans e)
  · rw [upd_ne z] at e
    exact g a u e
/-- .. or written where nothing is frozen -/
theorem GH.write {G H : Hp} (g : GH G H) {p : Addr} {o : HO} (h : G p = none) : GH G (upd H p o) := fun a u e => by
  have ne : a ≠ p := fun z => by rw [z, h] at e; cases e
  rw [upd_ne ne]
  exact g a u e
theorem Ex.new {G : Hp} {p : Addr} {o : HO} (h : G p = none) : Ex G (upd G p o) := fun a u e => by rw [upd_ne (ne_of_none e h)]; exact e
theorem Pst.new {G H : Hp} (g : GH G H) {p : Addr} {o : HO} (h : H p = none) : Pst G H (upd G p o) (upd H p o) where
  gh := (g.lay h).freeze upd_same
  ex := Ex.new (g.free h)
  frame := fun a u e => by rw [upd_ne (ne_of_none e h)]; exact e
  fresh := fun b q => by
    by_cases e : b = p
    · subst e; exact .inr h
    · rw [upd_ne e] at q; exact .inl q
/-- a new object, not frozen -/
theorem Pst.lay {G H : Hp} (g : GH G H) {p : Addr} {o : HO} (h : H p = none) : Pst G H G (upd H p o) where
  gh := g.lay h
  ex := Ex.refl G
  frame := fun a u e => by rw [upd_ne (ne_of_none e h)]; exact e
  fresh := fun b q => .inl q
end
end Pf

namespace Pf
open PySem L2

/-! ### operations on data -/
def bigN : Nat := 2 ^ 4000
def Sm (i : Int) : Prop := i.natAbs < bigN
instance (i : Int) : Decidable (Sm i) := inferInstanceAs (Decidable (_ < _))
def lim : Nat := 100000
inductive Bin where
  | add | sub | mul | fdiv | mod | pow
def Bin.op : Bin → Operator
  | .add => .Add | .sub => .Sub | .mul => .Mult | .fdiv => .FloorDiv | .mod => .Mod | .pow => .Pow
def addD : D → D → Option D
  | .int i, .int j => some (.int (i + j))
  | .str x, .str y => if x.length + y.length ≤ lim then some (.str (x ++ y)) else none
  | .list xs, .list ys => if xs.length + ys.length ≤ lim then some (.list (xs ++ ys)) else none
  | .tuple xs, .tuple ys => if xs.length + ys.length ≤ lim then some (.tuple (xs ++ ys)) else none
  | _, _ => none
def subD : D → D → Option D
  | .int i, .int j => some (.int (i - j))
  | _, _ => none
def mulD : D → D → Option D
  | .int i, .int j => if Sm i ∧ Sm j then some (.int (i * j)) else none
  | .list xs, .int k => if 0 ≤ k ∧ k ≤ 1000 ∧ xs.length ≤ 90 then some (.list (List.replicate k.toNat xs).flatten) else none
  | _, _ => none
def fdivD : D → D → Option D
  | .int i, .int j => if j ≠ 0 ∧ Sm j then some (.int (i.fdiv j)) else none
  | _, _ => none
def modD : D → D → Option D
  | .int i, .int j => if j ≠ 0 then some (.int (i.fmod j)) else none
  | _, _ => none
def powD : D → D → Option D
  | .int i, .int j => if 0 ≤ j ∧ j ≤ 1000 ∧ i.natAbs ≤ 1000 then some (.int (i ^ j.toNat)) else none
  | _, _ => none
def binD : Bin → D → D → Option D
  | .add => addD | .sub => subD | .mul => mulD | .fdiv => fdivD | .mod => modD | .pow => powD

/-- an operand: a value, or a list that a slot owns -/
def VD (K : PySem.W.Frag) (G H : Hp) (v : V) (d : D) : Prop :=
  DP K G v d ∨ ∃ a vs ds, v = .ref a ∧ d = .list ds ∧ H a = some (.lst vs) ∧ DPs K G vs ds
/-- what is wanted of a result -/
def Ret (K : PySem.W.Frag) (G H : Hp) (d : D) (Q : VK) : Prop := ∀ v G' H', Pst G H G' H' → DP K G' v d → Q v H'
section
variable {K : PySem.W.Frag} {G H : Hp} {v : V} {Q : VK}
theorem VD.int {i : Int} (h : VD K G H v (.int i)) : v = .int i := by
  rcases h with h | ⟨a, vs, ds, _, e, _⟩
  · cases h; rfl
  · cases e
theorem VD.str {i : Str} (h : VD K G H v (.str i)) : v = .str i := by
  rcases h with h | ⟨a, vs, ds, _, e, _⟩
  · cases h; rfl
  · cases e
theorem VD.bl {i : Bool} (h : VD K G H v (.bool i)) : v = .bl i := by
  rcases h with h | ⟨a, vs, ds, _, e, _⟩
  · cases h; rfl
  · cases e
theorem VD.non (h : VD K G H v .none) : v = .non := by
  rcases h with h | ⟨a, vs, ds, _, e, _⟩
  · cases h; rfl
  · cases e
theorem VD.lst (g : GH G H) {ds : List D} (h : VD K G H v (.list ds)) : ∃ a vs, v = .ref a ∧ H a = some (.lst vs) ∧ DPs K G vs ds := by
  rcases h with h | ⟨a, vs, ds', e1, e, h1, h3⟩
  · cases h with
    | lst h1 h2 => exact ⟨_, _, rfl, g.lst h1, h2⟩
  · cases e; exact ⟨a, vs, e1, h1, h3⟩
theorem VD.tup {ds : List D} (h : VD K G H v (.tuple ds)) : ∃ a vs, v = .ref a ∧ SqT K G a vs ∧ DPs K G vs ds ∧ DP K G v (.tuple ds) := by
  rcases h with h | ⟨a, vs, ds', e1, e, h1, h3⟩
  · have h' := h
    cases h with
    | tup h1 h2 => exact ⟨_, _, rfl, h1.sq, h2, h'⟩
  · cases e
theorem VD.dp (g : GH G H) {d : D} (h : VD K G H v d) : Dp K H v d := by
  rcases h with h | ⟨a, vs, ds, e1, e, h1, h3⟩
  · exact dp_dp g _ _ h
  · subst e1; subst e
    exact .lst (SqL.of h1) (dps_dp g _ _ h3)
theorem Ret.at (g : GH G H) {d : D} (r : Ret K G H d Q) (h : DP K G v d) : Q v H := r _ _ _ (Pst.refl g) h
theorem Ret.i (g : GH G H) {i : Int} (r : Ret K G H (.int i) Q) : Q (.int i) H := r.at g (.int i)
theorem Ret.b (g : GH G H) {i : Bool} (r : Ret K G H (.bool i) Q) : Q (.bl i) H := r.at g (.bl i)
theorem Ret.s (g : GH G H) {i : Str} (r : Ret K G H (.str i) Q) : Q (.str i) H := r.at g (.str i)
theorem Ret.l (g : GH G H) {ds : List D} {vs : List V} (r : Ret K G H (.list ds) Q) (h : DPs K G vs ds) {p : Addr} (hp : H p = none) : Q (.ref p) (upd H p (.lst vs)) :=
  r _ _ _ (Pst.new g hp) (.lst upd_same (dps_ex (Ex.new (g.free hp)) _ _ h))
theorem Ret.t (g : GH G H) {ds : List D} {vs : List V} (r : Ret K G H (.tuple ds) Q) (h : DPs K G vs ds) {p : Addr} {its : List Value} (hp : H p = none) : Q (.ref p) (upd H p (.frz (tupO its) (.tup vs))) :=
  r _ _ _ (Pst.new g hp) (.tup (.inl ⟨its, upd_same⟩) (dps_ex (Ex.new (g.free hp)) _ _ h))
end
theorem line_lim : lim ≤ sizeLine := by rw [sizeLine_eq]; decide
theorem big_pos : 0 < bigN := by unfold bigN; exact Nat.two_pow_pos _
theorem Sm.log {i : Int} (h : Sm i) : i.natAbs.log2 < 4000 := PySem.Flt.log2_lt_of (by decide) (show i.natAbs < 2 ^ 4000 from h)

/-- the reading of an operation over data -/
def rD (K : PySem.W.Frag) (f : D → D → Option D) : R2 := fun x y H Q => ∃ G d1 d2 d, GH G H ∧ VD K G H x d1 ∧ VD K G H y d2 ∧ f d1 d2 = some d ∧ Ret K G H d Q
section
variable {X : Cx}
theorem bin_ok (o : Bin) : OpR X (binaryOp o.op) (rD X.K (binD o)) := by
  intro pins s σ H x y v u Q I rx ry h
  obtain ⟨G, d1, d2, d, g, h1, h2, hb, k⟩ := h
  cases o with
  | add =>
    change addD d1 d2 = some d at hb
    unfold addD at hb
    split at hb
    · cases hb
      rw [h1.int] at rx; rw [h2.int] at ry
      exact op_add pins s σ H _ _ v u Q I rx ry ⟨_, _, rfl, rfl, k.i g⟩
    · split at hb
      · rename_i hl
        cases hb
        rw [h1.str] at rx; rw [h2.str] at ry
        exact op_add_str pins s σ H _ _ v u Q I rx ry ⟨_, _, rfl, rfl, Nat.le_trans hl line_lim, k.s g⟩
      · cases hb
    · split at hb
      · rename_i hl
        cases hb
        obtain ⟨a, vs, rfl, ha, hd⟩ := h1.lst g
        obtain ⟨b, ws, rfl, hb', he⟩ := h2.lst g
        exact op_cat pins s σ H _ _ v u Q I rx ry ⟨a, b, vs, ws, rfl, rfl, ha, hb', by rw [hd.length, he.length]; exact Nat.le_trans hl line_lim, fun p hp => k.l g (hd.append he) hp⟩
      · cases hb
    · split at hb
      · rename_i hl
        cases hb
        obtain ⟨a, vs, rfl, ha, hd, hx⟩ := h1.tup
        obtain ⟨b, ws, rfl, hb', he, hy⟩ := h2.tup
        refine opX_cat pins s σ H _ _ v u Q I rx ry ⟨a, b, vs, ws, rfl, rfl, seqT_gh g ha, seqT_gh g hb', by rw [hd.length, he.length]; exact Nat.le_trans hl line_lim, fun z => ?_, fun _ z => ?_, fun _ _ p _ hp => k.t g (hd.append he) hp⟩
        · subst z
          cases hd
          exact k.at g hy
        · subst z
          cases he
          rw [List.append_nil] at k
          exact k.at g hx
      · cases hb
    · cases hb
  | sub =>
    change subD d1 d2 = some d at hb
    unfold subD at hb
    split at hb
    · cases hb
      rw [h1.int] at rx; rw [h2.int] at ry
      exact op_sub pins s σ H _ _ v u Q I rx ry ⟨_, _, rfl, rfl, k.i g⟩
    · cases hb
  | mul =>
    change mulD d1 d2 = some d at hb
    unfold mulD at hb
    split at hb
    · split at hb
      · rename_i hl
        cases hb
        rw [h1.int] at rx; rw [h2.int] at ry
        refine op_mulW pins s σ H _ _ v u Q I rx ry ⟨_, _, rfl, rfl, ?_, k.i g⟩
        have a1 := hl.1.log
        have a2 := hl.2.log
        unfold CMulW
        omega
      · cases hb
    · split at hb
      · rename_i xs kk hl
        cases hb
        obtain ⟨a, vs, rfl, ha, hd⟩ := h1.lst g
        rw [h2.int] at ry
        have hk : kk.toNat ≤ 1000 := by omega
        refine op_rep pins s σ H _ _ v u Q I rx ry ⟨a, kk, vs, rfl, rfl, ha, by omega, by omega, ?_, fun p hp => k.l g (hd.rep _) hp⟩
        rw [hd.length]
        exact Nat.le_trans (Nat.mul_le_mul hl.2.2 hk) (Nat.le_trans (by decide) line_lim)
      · cases hb
    · cases hb
  | fdiv =>
    change fdivD d1 d2 = some d at hb
    unfold fdivD at hb
    split at hb
    · split at hb
      · rename_i hl
        cases hb
        rw [h1.int] at rx; rw [h2.int] at ry
        obtain ⟨t, rfl⟩ := rx
        obtain ⟨t', rfl⟩ := ry
        refine PyProof.Rows.floordiv_int hl.1 ⟨.int _, H, I.tok _, ⟨_, rfl⟩, k.i g⟩ (.inl (PyProof.noPylong_of_log2 ?_))
        have := hl.2.log
        omega
      · cases hb
    · cases hb
  | mod =>
    change modD d1 d2 = some d at hb
    unfold modD at hb
    split at hb
    · split at hb
      · rename_i hl
        cases hb
        rw [h1.int] at rx; rw [h2.int] at ry
        exact op_modN pins s σ H _ _ v u Q I rx ry ⟨_, _, rfl, rfl, hl, k.i g⟩
      · cases hb
    · cases hb
  | pow =>
    change powD d1 d2 = some d at hb
    unfold powD at hb
    split at hb
    · split at hb
      · rename_i hl
        cases hb
        rw [h1.int] at rx; rw [h2.int] at ry
        refine op_pow pins s σ H _ _ v u Q I rx ry ⟨_, _, rfl, rfl, ⟨hl.1, by omega, ?_⟩, k.i g⟩
        exact Nat.lt_of_le_of_lt hl.2.2 (by decide)
      · cases hb
    · cases hb
end
end Pf

namespace Pf
open PySem L2

/-! ### comparisons -/
inductive Cm where
  | eq | ne | lt | le | gt | ge | is | isnot | inn | notin
  deriving DecidableEq
def Cm.op : Cm → CmpOp
  | .eq => .Eq | .ne => .NotEq | .lt => .Lt | .le => .LtE | .gt => .Gt | .ge => .GtE | .is => .Is | .isnot => .IsNot | .inn => .In | .notin => .NotIn
abbrev shp (d : D) : Bool := SeqAt.shaped d
def isN : D → Bool
  | .none => true
  | _ => false
def ordD (f : Int → Int → Bool) : D → D → Option Bool
  | .int i, .int j => some (f i j)
  | _, _ => none
def eqD (a b : D) : Option Bool := if shp a = true ∧ shp b = true then some (PyData.eqv a b) else none
def inD : D → D → Option Bool
  | a, .list xs => if shp a = true ∧ shp (.list xs) = true then some (xs.any fun z => PyData.eqv z a) else none
  | a, .tuple xs => if shp a = true ∧ shp (.tuple xs) = true then some (xs.any fun z => PyData.eqv z a) else none
  | _, _ => none
def isD (a : D) : D → Option Bool
  | .none => some (isN a)
  | _ => none
def cmpD : Cm → D → D → Option Bool
  | .eq => eqD | .ne => fun a b => (eqD a b).map not | .lt => ordD fun i j => decide (i < j) | .le => ordD fun i j => decide (i ≤ j)
  | .gt => ordD fun i j => decide (j < i) | .ge => ordD fun i j => decide (j ≤ i) | .is => isD | .isnot => fun a b => (isD a b).map not
  | .inn => inD | .notin => fun a b => (inD a b).map not
/-- the reading of a comparison -/
def rCm (K : PySem.W.Frag) (f : D → D → Option Bool) : R2 := fun x y H Q => ∃ G d1 d2 b, GH G H ∧ VD K G H x d1 ∧ VD K G H y d2 ∧ f d1 d2 = some b ∧ Q (.bl b) H
theorem VD.isN {K : PySem.W.Frag} {G H : Hp} {v : V} {d : D} (h : VD K G H v d) : decide (v = .non) = isN d := by
  rcases h with h | ⟨a, vs, ds, e1, e, _⟩
  · cases h <;> rfl
  · subst e1; subst e; rfl
theorem ord_of {f : Int → Int → Bool} {d1 d2 : D} {b : Bool} (h : ordD f d1 d2 = some b) : ∃ i j, d1 = .int i ∧ d2 = .int j ∧ f i j = b := by
  unfold ordD at h
  split at h
  · cases h; exact ⟨_, _, rfl, rfl, rfl⟩
  · cases h
section
variable {X : Cx}
theorem ord_ok {o : CmpOp} {f : Int → Int → Bool} (r : OpR X (compareOp o) (rI0 fun i j => .bl (f i j))) : OpR X (compareOp o) (rCm X.K (ordD f)) := by
  intro pins s σ H x y v u Q I rx ry h
  obtain ⟨G, d1, d2, d, g, h1, h2, hb, k⟩ := h
  obtain ⟨i, j, rfl, rfl, rfl⟩ := ord_of hb
  rw [h1.int] at rx; rw [h2.int] at ry
  exact r pins s σ H _ _ v u Q I rx ry ⟨i, j, rfl, rfl, k⟩
theorem in_ok (hu : X.A.units + 65 < cLine) : OpR X (compareOp .In) (rCm X.K inD) := by
  intro pins s σ H x y v u Q I rx ry h
  obtain ⟨G, d1, d2, b, g, h1, h2, hb, k⟩ := h
  obtain ⟨as, r1⟩ := Dp.reads I d1 x v (h1.dp g) rx
  obtain ⟨bs, r2⟩ := Dp.reads I d2 y u (h2.dp g) ry
  unfold inD at hb
  split at hb
  · split at hb
    · rename_i hl
      cases hb
      exact SeqAt.in_list_reads r2 r1 (SeqAt.canLay_of_shaped hl.2) (SeqAt.canLay_of_shaped hl.1) (PyProof.Rows.room_in_shaped hl.1 hu) ⟨.bl _, H, I, rfl, k⟩
    · cases hb
  · split at hb
    · rename_i hl
      cases hb
      exact SeqAt.in_tuple_reads r2 r1 (SeqAt.canLay_of_shaped hl.2) (SeqAt.canLay_of_shaped hl.1) (PyProof.Rows.room_in_shaped hl.1 hu) ⟨.bl _, H, I, rfl, k⟩
    · cases hb
  · cases hb
theorem notin_ok (hu : X.A.units + 65 < cLine) : OpR X (compareOp .NotIn) (rCm X.K fun a b => (inD a b).map not) := by
  intro pins s σ H x y v u Q I rx ry h
  obtain ⟨G, d1, d2, b, g, h1, h2, hb, k⟩ := h
  obtain ⟨as, r1⟩ := Dp.reads I d1 x v (h1.dp g) rx
  obtain ⟨bs, r2⟩ := Dp.reads I d2 y u (h2.dp g) ry
  obtain ⟨b', hb', rfl⟩ := Option.map_eq_some_iff.mp hb
  unfold inD at hb'
  split at hb'
  · split at hb'
    · rename_i hl
      cases hb'
      exact SeqAt.notIn_list_reads r2 r1 (SeqAt.canLay_of_shaped hl.2) (SeqAt.canLay_of_shaped hl.1) (PyProof.Rows.room_in_shaped hl.1 hu) ⟨.bl _, H, I, rfl, k⟩
    · cases hb'
  · split at hb'
    · rename_i hl
      cases hb'
      exact SeqAt.notIn_tuple_reads r2 r1 (SeqAt.canLay_of_shaped hl.2) (SeqAt.canLay_of_shaped hl.1) (PyProof.Rows.room_in_shaped hl.1 hu) ⟨.bl _, H, I, rfl, k⟩
    · cases hb'
  · cases hb'
theorem cmp_ok (o : Cm) (hu : X.A.units + 65 < cLine) : OpR X (compareOp o.op) (rCm X.K (cmpD o)) := by
  cases o with
  | eq =>
    intro pins s σ H x y v u Q I rx ry h
    obtain ⟨G, d1, d2, b, g, h1, h2, hb, k⟩ := h
    change eqD d1 d2 = some b at hb
    unfold eqD at hb
    split at hb
    · rename_i hl
      cases hb
      exact op_eqD (by omega) pins s σ H x y v u Q I rx ry ⟨d1, d2, h1.dp g, h2.dp g, hl.1, hl.2, k⟩
    · cases hb
  | ne =>
    intro pins s σ H x y v u Q I rx ry h
    obtain ⟨G, d1, d2, b, g, h1, h2, hb, k⟩ := h
    obtain ⟨b', hb', rfl⟩ := Option.map_eq_some_iff.mp hb
    unfold eqD at hb'
    split at hb'
    · rename_i hl
      cases hb'
      exact op_neD (by omega) pins s σ H x y v u Q I rx ry ⟨d1, d2, h1.dp g, h2.dp g, hl.1, hl.2, k⟩
    · cases hb'
  | lt => exact ord_ok op_lt
  | le => exact ord_ok op_le
  | gt => exact ord_ok op_gt
  | ge => exact ord_ok op_ge
  | is =>
    intro pins s σ H x y v u Q I rx ry h
    obtain ⟨G, d1, d2, b, g, h1, h2, hb, k⟩ := h
    change isD d1 d2 = some b at hb
    unfold isD at hb
    split at hb
    · cases hb
      rw [← h1.isN] at k
      exact op_isN pins s σ H x y v u Q I rx ry ⟨h2.non, k⟩
    · cases hb
  | isnot =>
    intro pins s σ H x y v u Q I rx ry h
    obtain ⟨G, d1, d2, b, g, h1, h2, hb, k⟩ := h
    obtain ⟨b', hb', rfl⟩ := Option.map_eq_some_iff.mp hb
    unfold isD at hb'
    split at hb'
    · cases hb'
      rw [← h1.isN] at k
      exact op_notN pins s σ H x y v u Q I rx ry ⟨h2.non, k⟩
    · cases hb'
  | inn => exact in_ok hu
  | notin => exact notin_ok hu
end

/-! ### subscripts, slices -/
def atD : D → D → Option D
  | .list xs, .int i => atI xs i
  | .tuple xs, .int i => atI xs i
  | .str z, .int i => if z.length ≤ lim then (atI z.cps.toList i).map fun c => .str ⟨#[c]⟩ else none
  | _, _ => none
theorem DPs.at {K : PySem.W.Frag} {G : Hp} {vs : List V} {ds : List D} (h : DPs K G vs ds) {i : Int} {d : D} (e : atI ds i = some d) : ∃ v, atI vs i = some v ∧ DP K G v d := by
  unfold atI at e ⊢
  rw [h.length]
  obtain ⟨j, hj, e2⟩ := Option.bind_eq_some_iff.mp e
  obtain ⟨v, hv, r⟩ := h.get e2
  exact ⟨v, by rw [hj]; exact hv, r⟩
/-- o[i] by data: a slot's list (or the script) too -/
def rAt (K : PySem.W.Frag) : R2 := fun x y H Q => ∃ G d1 d2 d, GH G H ∧ VD K G H x d1 ∧ VD K G H y d2 ∧ atD d1 d2 = some d ∧ ∀ v, DP K G v d → Q v H
section
variable {X : Cx}
theorem at_ok : IxR X (rAt X.K) := by
  intro value slice pins s σ H x y v u Q I rx ry h hs
  obtain ⟨G, d1, d2, d, g, h1, h2, hb, k⟩ := h
  unfold atD at hb
  split at hb
  · rw [h2.int] at ry
    obtain ⟨a, vs, rfl, ha, hd⟩ := h1.lst g
    obtain ⟨w, hw, hdw⟩ := hd.at hb
    exact ix_list value slice pins s σ H _ _ v u Q I rx ry ⟨a, vs, _, w, rfl, rfl, SqL.of ha, hw, k w hdw⟩ hs
  · rw [h2.int] at ry
    obtain ⟨a, vs, rfl, ha, hd, _⟩ := h1.tup
    obtain ⟨w, hw, hdw⟩ := hd.at hb
    exact ix_tup value slice pins s σ H _ _ v u Q I rx ry ⟨a, vs, _, w, rfl, rfl, seqT_gh g ha, hw, k w hdw⟩ hs
  · split at hb
    · rename_i hl
      obtain ⟨c, hc, rfl⟩ := Option.map_eq_some_iff.mp hb
      rw [h1.str] at rx; rw [h2.int] at ry
      exact ix_str value slice pins s σ H _ _ v u Q I rx ry ⟨_, _, c, rfl, rfl, Nat.le_trans hl line_lim, hc, k _ (.str _)⟩ hs
    · cases hb
  · cases hb
end
def cutL {α : Type} (xs : List α) (lo hi : Option Int) : List α := (xs.drop (HT.sIx xs.length 0 lo)).take (HT.sIx xs.length xs.length hi - HT.sIx xs.length 0 lo)
def cutD : D → Option Int → Option Int → Option D
  | .list xs, lo, hi => some (.list (cutL xs lo hi))
  | .tuple xs, lo, hi => some (.tuple (cutL xs lo hi))
  | .str z, lo, hi => if z.length ≤ lim then some (.str (cutS z lo hi)) else none
  | _, _, _ => none
def rCut (K : PySem.W.Frag) : V → Option Int → Option Int → Hp → VK → Prop := fun x lo hi H Q => ∃ G d1 d, GH G H ∧ VD K G H x d1 ∧ cutD d1 lo hi = some d ∧ Ret K G H d Q
theorem DPs.cut {K : PySem.W.Frag} {G : Hp} {vs : List V} {ds : List D} (h : DPs K G vs ds) (lo hi : Option Int) : DPs K G (cutV vs lo hi) (cutL ds lo hi) := by
  unfold cutV cutL
  rw [h.length]
  exact (h.drop _).take _
section
variable {X : Cx}
theorem cut_ok : SlR X (rCut X.K) := by
  intro pins s σ H x v vl vu lo hi sl Q I rx hs pl pu h
  obtain ⟨G, d1, d, g, h1, hb, k⟩ := h
  unfold cutD at hb
  split at hb
  · cases hb
    obtain ⟨a, vs, rfl, ha, hd⟩ := h1.lst g
    exact sl_list pins s σ H _ v vl vu lo hi sl Q I rx hs pl pu ⟨a, vs, rfl, SqL.of ha, fun p hp => k.l g (hd.cut lo hi) hp⟩
  · cases hb
    obtain ⟨a, vs, rfl, ha, hd, hx⟩ := h1.tup
    refine slX_tup pins s σ H _ v vl vu lo hi sl Q I rx hs pl pu ⟨a, vs, rfl, seqT_gh g ha, fun z => ?_, fun p _ hp => k.t g (hd.cut lo hi) hp⟩
    rw [hd.length] at z
    have e : cutL ‹List D› lo hi = ‹List D› := by
      unfold cutL
      rw [z.1, z.2, List.drop_zero, Nat.sub_zero, List.take_length]
    rw [e] at k
    exact k.at g hx
  · split at hb
    · rename_i hl
      cases hb
      rw [h1.str] at rx
      exact sl_str pins s σ H _ v vl vu lo hi sl Q I rx hs pl pu ⟨_, rfl, Nat.le_trans hl line_lim, k.s g⟩
    · cases hb
  · cases hb
end

/-! ### built-in functions -/
/-- the arguments by data -/
def VDs (K : PySem.W.Frag) (G H : Hp) : List V → List D → Prop := Paired (VD K G H)
def intsOf : List D → Option (List Int)
  | [] => some []
  | .int i :: r => (intsOf r).map (i :: ·)
  | _ :: _ => none
def boolsOf : List D → Option (List Bool)
  | [] => some []
  | .bool i :: r => (boolsOf r).map (i :: ·)
  | _ :: _ => none
theorem intsOf_eq : ∀ {ds : List D} {ns : List Int}, intsOf ds = some ns → ds = ns.map PyData.int
  | [], _, h => by cases h; rfl
  | d :: ds, ns, h => by
    unfold intsOf at h
    split at h
    · rename_i e; cases e
    · rename_i i r e
      cases e
      obtain ⟨ms, hm, rfl⟩ := Option.map_eq_some_iff.mp h
      rw [intsOf_eq hm]
      rfl
    · cases h
theorem boolsOf_eq : ∀ {ds : List D} {ns : List Bool}, boolsOf ds = some ns → ds = ns.map PyData.bool
  | [], _, h => by cases h; rfl
  | d :: ds, ns, h => by
    unfold boolsOf at h
    split at h
    · rename_i e; cases e
    · rename_i i r e
      cases e
      obtain ⟨ms, hm, rfl⟩ := Option.map_eq_some_iff.mp h
      rw [boolsOf_eq hm]
      rfl
    · cases h
theorem intsOf_map : ∀ (ns : List Int), intsOf (ns.map PyData.int) = some ns
  | [] => rfl
  | n :: ns => by show (intsOf (ns.map PyData.int)).map (n :: ·) = _; rw [intsOf_map ns]; rfl
theorem boolsOf_map : ∀ (ns : List Bool), boolsOf (ns.map PyData.bool) = some ns
  | [] => rfl
  | n :: ns => by show (boolsOf (ns.map PyData.bool)).map (n :: ·) = _; rw [boolsOf_map ns]; rfl
def mxL : List Int → Int
  | [] => 0
  | [x] => x
  | x :: y :: r => max x (mxL (y :: r))
def mnL : List Int → Int
  | [] => 0
  | [x] => x
  | x :: y :: r => min x (mnL (y :: r))
theorem mxL_spec : ∀ {ns : List Int} {m : Int}, m ∈ ns → (∀ y, y ∈ ns → y ≤ m) → m = mxL ns
  | [], m, h, _ => by cases h
  | [x], m, h, _ => by simpa [mxL] using h
  | x :: y :: r, m, h, hm => by
    have hmem : mxL (y :: r) ∈ y :: r := by
      clear h hm
      induction r generalizing y with
      | nil => simp [mxL]
      | cons z r ih =>
        show max y (mxL (z :: r)) ∈ _
        rcases Int.le_total y (mxL (z :: r)) with q | q
        · rw [Int.max_eq_right q]; exact List.mem_cons_of_mem _ (ih z)
        · rw [Int.max_eq_left q]; exact List.mem_cons_self
    have hge : ∀ z, z ∈ y :: r → z ≤ mxL (y :: r) := by
      clear h hm hmem
      induction r generalizing y with
      | nil => intro z hz; simp at hz; subst hz; exact Int.le_refl _
      | cons w r ih =>
        intro z hz
        show z ≤ max y (mxL (w :: r))
        rcases List.mem_cons.mp hz with rfl | hz
        · exact Int.le_max_left _ _
        · exact Int.le_trans (ih w z hz) (Int.le_max_right _ _)
    show m = max x (mxL (y :: r))
    have a1 := hm x List.mem_cons_self
    have a2 := hm _ (List.mem_cons_of_mem x hmem)
    rcases List.mem_cons.mp h with rfl | h
    · omega
    · have := hge m h
      omega
theorem mnL_spec : ∀ {ns : List Int} {m : Int}, m ∈ ns → (∀ y, y ∈ ns → m ≤ y) → m = mnL ns
  | [], m, h, _ => by cases h
  | [x], m, h, _ => by simpa [mnL] using h
  | x :: y :: r, m, h, hm => by
    have hmem : mnL (y :: r) ∈ y :: r := by
      clear h hm
      induction r generalizing y with
      | nil => simp [mnL]
      | cons z r ih =>
        show min y (mnL (z :: r)) ∈ _
        rcases Int.le_total y (mnL (z :: r)) with q | q
        · rw [Int.min_eq_left q]; exact List.mem_cons_self
        · rw [Int.min_eq_right q]; exact List.mem_cons_of_mem _ (ih z)
    have hge : ∀ z, z ∈ y :: r → mnL (y :: r) ≤ z := by
      clear h hm hmem
      induction r generalizing y with
      | nil => intro z hz; simp at hz; subst hz; exact Int.le_refl _
      | cons w r ih =>
        intro z hz
        show min y (mnL (w :: r)) ≤ z
        rcases List.mem_cons.mp hz with rfl | hz
        · exact Int.min_le_left _ _
        · exact Int.le_trans (Int.min_le_right _ _) (ih w z hz)
    show m = min x (mnL (y :: r))
    have a1 := hm x List.mem_cons_self
    have a2 := hm _ (List.mem_cons_of_mem x hmem)
    rcases List.mem_cons.mp h with rfl | h
    · omega
    · have := hge m h
      omega
/-- those of one argument that is a sequence or an int; of two ints -/
inductive Fn where
  | abs | len | sum | max1 | min1 | max2 | min2 | int | all | any
def Fn.name : Fn → Str
  | .abs => "abs" | .len => "len" | .sum => "sum" | .max1 => "max" | .min1 => "min" | .max2 => "max" | .min2 => "min" | .int => "int" | .all => "all" | .any => "any"
def Fn.val : Fn → Value
  | .abs => .builtin "abs" | .len => .builtin "len" | .sum => .builtin "sum" | .max1 => .builtin "max" | .min1 => .builtin "min" | .max2 => .builtin "max" | .min2 => .builtin "min"
  | .int => .type "int" | .all => .builtin "all" | .any => .builtin "any"
def fnD : Fn → List D → Option D
  | .abs, [.int i] => some (.int (if i < 0 then -i else i))
  | .len, [.list xs] => some (.int xs.length)
  | .len, [.tuple xs] => some (.int xs.length)
  | .len, [.str z] => if z.length ≤ lim then some (.int z.length) else none
  | .sum, [.list xs] => (intsOf xs).map fun ns => .int ns.sum
  | .sum, [.tuple xs] => (intsOf xs).map fun ns => .int ns.sum
  | .max1, [.list xs] => if xs = [] then none else (intsOf xs).map fun ns => .int (mxL ns)
  | .min1, [.list xs] => if xs = [] then none else (intsOf xs).map fun ns => .int (mnL ns)
  | .max2, [.int i, .int j] => some (.int (if j > i then j else i))
  | .min2, [.int i, .int j] => some (.int (if j < i then j else i))
  | .int, [.int i] => some (.int i)
  | .int, [.bool b] => some (.int (if b then 1 else 0))
  | .all, [.list xs] => (boolsOf xs).map fun bs => .bool (bs.all id)
  | .any, [.list xs] => (boolsOf xs).map fun bs => .bool (bs.any id)
  | _, _ => none
def rFn (K : PySem.W.Frag) (f : List D → Option D) : List V → Hp → VK → Prop := fun vs H Q => ∃ G ds d, GH G H ∧ VDs K G H vs ds ∧ f ds = some d ∧ Ret K G H d Q
/-! #### sum of a tuple -/
theorem iter_intTup {prog : Program} {w : World} {A : Around} {E : Value → Shared → Prop} {s : Shared} {l : Addr} {items : Array Value} {Q : Value → Shared → Prop} (hl : s.heap.IsTuple l items)
    (h : ∀ s₂ : Shared, s₂ = { s with heap := s.heap.push { cls := .type "tuple_iterator", data := .fields #[.ref l, .int 0 0] } } →
      (s₂.heap.IsTupleIter s.heap.objs.size l 0 ∧ s₂.heap.IsTuple l items) → l < s.heap.objs.size → Q (.ref s.heap.objs.size) s₂) :
    wpAny (model prog w) A (pyIter (.ref l)) Q E s := by
  have hlt : l < s.heap.objs.size := by obtain ⟨_, e, _⟩ := hl; exact Heap.lt_size e
  exact wpAny_pyIter_tuple hl (h _ rfl ⟨⟨_, Heap.get?_push_size _ rfl, rfl, rfl⟩, hl.push _⟩ hlt)
theorem sum_tup {prog : Program} {w : World} {A : Around} {E : Value → Shared → Prop} {s : Shared} {l : Addr} {its : List Value} {ns : List Int} {Q : Value → Shared → Prop} (hh : A.handled = none) (hl : s.heap.IsTuple l its.toArray) (hi : PyProof.Rows.IntsAre its ns)
    (h : ∀ h' tk t', (∀ b o, s.heap.get? b = some o → h'.get? b = some o) → Q (.int ns.sum t') { s with heap := h', toks := tk }) : wpAny (model prog w) A (call (.builtin "sum") [.ref l]) Q E s := by
  obtain ⟨xs, e⟩ := hi.allInts.items
  have hn : numsOf (intItems xs).toList = ns := by rw [← e]; exact hi.numsOf
  rw [nums_intItems] at hn
  rw [e] at hl
  refine call_sum_walkG (iter_intTup hl fun s₂ e st hlt => ?_)
  subst e
  refine ⟨_, _, _, _, _, _, numAt xs, rfl, Walks.tuple (A := A.in1) hh _ l (Nat.ne_of_lt hlt) (intItems xs), st, fun b hb => ?_, (fun _ _ => intItems_at), fun h' tk t' hk => ?_⟩
  · show b < (s.heap.push _).objs.size
    rw [Heap.size_push]
    rcases List.mem_cons.mp hb with rfl | hb
    · exact Nat.lt_succ_self _
    · rcases List.mem_cons.mp hb with rfl | hb
      · exact Nat.lt_succ_of_lt hlt
      · cases hb
  · have := h h' tk t' fun b o e => hk b o (fun hm => by
      have e' : b = s.heap.objs.size := by simpa using hm
      exact Nat.lt_irrefl _ (e' ▸ Heap.lt_size e)) (Heap.get?_push_of_some _ e)
    rw [← hn, ← List.take_of_length_le (l := (xs.toList.map (·.1))) (i := xs.size) (by simp), ← preSum_eq] at this
    simpa [intItems] using this
section
variable {X : Cx}
theorem VDs.one {K : PySem.W.Frag} {G H : Hp} {vs : List V} {d : D} (h : VDs K G H vs [d]) : ∃ v, vs = [v] ∧ VD K G H v d := by
  cases h with
  | cons r t => cases t; exact ⟨_, rfl, r⟩
theorem VDs.two {K : PySem.W.Frag} {G H : Hp} {vs : List V} {d e : D} (h : VDs K G H vs [d, e]) : ∃ v w, vs = [v, w] ∧ VD K G H v d ∧ VD K G H w e := by
  cases h with
  | cons r t =>
    cases t with
    | cons r' t' => cases t'; exact ⟨_, _, rfl, r, r'⟩
theorem fn_ok (g : Fn) (hc : X.calm = true) : CallR X g.val (rFn X.K (fnD g)) := by
  intro pins s σ H vs us Q I r h
  obtain ⟨G, ds, d, gh, hv, hb, k⟩ := h
  unfold fnD at hb
  split at hb
  · cases hb
    obtain ⟨v, rfl, h1⟩ := hv.one
    rw [h1.int] at r
    exact call_abs pins s σ H _ us Q I r ⟨_, rfl, k.i gh⟩
  · cases hb
    obtain ⟨v, rfl, h1⟩ := hv.one
    obtain ⟨a, xs, rfl, ha, hd⟩ := h1.lst gh
    rw [← hd.length] at k
    exact call_len_seq pins s σ H _ us Q I r ⟨a, xs, rfl, .inl (SqL.of ha), k.i gh⟩
  · cases hb
    obtain ⟨v, rfl, h1⟩ := hv.one
    obtain ⟨a, xs, rfl, ha, hd, _⟩ := h1.tup
    rw [← hd.length] at k
    exact call_len_seq pins s σ H _ us Q I r ⟨a, xs, rfl, .inr (seqT_gh gh ha), k.i gh⟩
  · split at hb
    · rename_i hl
      cases hb
      obtain ⟨v, rfl, h1⟩ := hv.one
      rw [h1.str] at r
      exact call_len_str pins s σ H _ us Q I r ⟨_, rfl, Nat.le_trans hl line_lim, k.i gh⟩
    · cases hb
  · obtain ⟨ns, hn, rfl⟩ := Option.map_eq_some_iff.mp hb
    obtain ⟨v, rfl, h1⟩ := hv.one
    obtain ⟨a, xs, rfl, ha, hd⟩ := h1.lst gh
    rw [intsOf_eq hn] at hd
    rw [hd.ints] at ha
    exact cr_sum hc pins s σ H _ us Q I r ⟨a, ns, rfl, SqL.of ha, k.i gh⟩
  · obtain ⟨ns, hn, rfl⟩ := Option.map_eq_some_iff.mp hb
    obtain ⟨v, rfl, h1⟩ := hv.one
    obtain ⟨a, xs, rfl, ha, hd, _⟩ := h1.tup
    rw [intsOf_eq hn] at hd
    rw [hd.ints] at ha
    obtain ⟨its, rv, ht, _⟩ := I.tuple (seqT_gh gh ha)
    obtain ⟨u, rfl, ru⟩ := vals1 r
    cases ru
    exact sum_tup (I.ok.hd hc) ht (intsAre_of rv) fun h' tk t' hk => ⟨.int _, H, I.kept hk, ⟨_, rfl⟩, k.i gh⟩
  · split at hb
    · cases hb
    · rename_i hne
      obtain ⟨ns, hn, rfl⟩ := Option.map_eq_some_iff.mp hb
      obtain ⟨v, rfl, h1⟩ := hv.one
      obtain ⟨a, xs, rfl, ha, hd⟩ := h1.lst gh
      rw [intsOf_eq hn] at hd hne
      rw [hd.ints] at ha
      refine cr_max hc pins s σ H _ us Q I r ⟨a, ns, rfl, SqL.of ha, ?_, fun m h1 h2 => ?_⟩
      · exact List.length_pos_iff.mpr fun z => hne (by rw [z]; rfl)
      · rw [mxL_spec h1 h2]; exact k.i gh
  · split at hb
    · cases hb
    · rename_i hne
      obtain ⟨ns, hn, rfl⟩ := Option.map_eq_some_iff.mp hb
      obtain ⟨v, rfl, h1⟩ := hv.one
      obtain ⟨a, xs, rfl, ha, hd⟩ := h1.lst gh
      rw [intsOf_eq hn] at hd hne
      rw [hd.ints] at ha
      refine cr_min hc pins s σ H _ us Q I r ⟨a, ns, rfl, SqL.of ha, ?_, fun m h1 h2 => ?_⟩
      · exact List.length_pos_iff.mpr fun z => hne (by rw [z]; rfl)
      · rw [mnL_spec h1 h2]; exact k.i gh
  · cases hb
    obtain ⟨v, w, rfl, h1, h2⟩ := hv.two
    rw [h1.int, h2.int] at r
    exact call_max2 hc pins s σ H _ us Q I r ⟨_, _, rfl, k.i gh⟩
  · cases hb
    obtain ⟨v, w, rfl, h1, h2⟩ := hv.two
    rw [h1.int, h2.int] at r
    exact call_min2 hc pins s σ H _ us Q I r ⟨_, _, rfl, k.i gh⟩
  · cases hb
    obtain ⟨v, rfl, h1⟩ := hv.one
    rw [h1.int] at r
    exact call_int1 pins s σ H _ us Q I r (.inl ⟨_, rfl, k.i gh⟩)
  · cases hb
    obtain ⟨v, rfl, h1⟩ := hv.one
    rw [h1.bl] at r
    exact call_int1 pins s σ H _ us Q I r (.inr ⟨_, rfl, k.i gh⟩)
  · obtain ⟨ns, hn, rfl⟩ := Option.map_eq_some_iff.mp hb
    obtain ⟨v, rfl, h1⟩ := hv.one
    obtain ⟨a, xs, rfl, ha, hd⟩ := h1.lst gh
    rw [boolsOf_eq hn] at hd
    rw [hd.bools] at ha
    exact cr_all hc pins s σ H _ us Q I r ⟨a, ns, rfl, SqL.of ha, k.b gh⟩
  · obtain ⟨ns, hn, rfl⟩ := Option.map_eq_some_iff.mp hb
    obtain ⟨v, rfl, h1⟩ := hv.one
    obtain ⟨a, xs, rfl, ha, hd⟩ := h1.lst gh
    rw [boolsOf_eq hn] at hd
    rw [hd.bools] at ha
    exact cr_any hc pins s σ H _ us Q I r ⟨a, ns, rfl, SqL.of ha, k.b gh⟩
  · cases hb

/-! ### isinstance -/
inductive Ty where
  | int | bool | str | tuple | list
  deriving DecidableEq
def Ty.name : Ty → String
  | .int => "int" | .bool => "bool" | .str => "str" | .tuple => "tuple" | .list => "list"
def tyOf : D → Option String
  | .none => some "NoneType" | .bool _ => some "bool" | .int _ => some "int" | .str _ => some "str" | .list _ => some "list" | .tuple _ => some "tuple" | .dict _ => none
def isiD (t : Ty) : D → Option Bool
  | .none => some false
  | .bool _ => some (t == .bool || t == .int)
  | .int _ => some (t == .int)
  | .str _ => some (t == .str)
  | .list _ => some (t == .list)
  | .tuple _ => some (t == .tuple)
  | .dict _ => none
theorem VD.ty {K : PySem.W.Frag} {G H : Hp} {v : V} {d : D} (g : GH G H) (h : VD K G H v d) : ∃ n, tyOf d = some n ∧ TyX K H v (.type n) := by
  rcases h with h | ⟨a, vs, ds, e1, e, h1, _⟩
  · cases h with
    | non => exact ⟨_, rfl, .base .non⟩
    | bl b => exact ⟨_, rfl, .base (.bl b)⟩
    | int i => exact ⟨_, rfl, .base (.int i)⟩
    | str x => exact ⟨_, rfl, .base (.str x)⟩
    | lst h1 _ => exact ⟨_, rfl, .base (.lst (g.lst h1))⟩
    | tup h1 _ =>
      refine ⟨_, rfl, ?_⟩
      rcases seqT_gh g h1.sq with (z | ⟨o, z⟩) | ⟨o, its, n, z, c, _⟩
      · exact .base (.tup z)
      · exact .fTuple z
      · exact .kTuple z c
  · subst e1; subst e
    exact ⟨_, rfl, .base (.lst h1)⟩
theorem kit_all (t : Ty) : ∀ (d : D) (n : String) (b : Bool), tyOf d = some n → isiD t d = some b → kitB n t.name = some b := by
  intro d n b h1 h2
  cases t <;> cases d <;> cases h1 <;> cases h2 <;> decide +kernel
def rIs (K : PySem.W.Frag) (t : Ty) : List V → Hp → VK → Prop := fun vs H Q => ∃ G x d b, vs = [x, .ty t.name] ∧ GH G H ∧ VD K G H x d ∧ isiD t d = some b ∧ Q (.bl b) H
theorem isi_ok (t : Ty) : CallR X (.builtin "isinstance") (rIs X.K t) := by
  intro pins s σ H vs us Q I r h
  obtain ⟨G, x, d, b, rfl, g, hx, hb, k⟩ := h
  obtain ⟨n, hn, ty⟩ := hx.ty g
  exact call_isi pins s σ H _ us Q I r ⟨x, _, _, _, b, rfl, .ty _, ty, kit_ty (kit_all t d n b hn hb), k⟩
end
end Pf

namespace Pf
open PySem L2

/-! ### expressions told by data -/
abbrev M (α : Type) := En → Option (α × En)
inductive Op where
  | slot (i : Nat)
  | val (v : SV)
def OR (K : PySem.W.Frag) (G : Hp) (σ : L2.St) (v : V) : Op → Prop
  | .slot i => σ[i]? = some (some v)
  | .val sv => VR K G v sv
def rsS : Option (Option SV) → Option D
  | some (some (.dat d)) => some d
  | some (some (.olst ds)) => some (.list ds)
  | _ => none
def rsV : SV → Option D
  | .dat d => some d
  | _ => none
def rs : Op → En → Option D
  | .slot i, en => rsS en[i]?
  | .val v, _ => rsV v
theorem OR.ex {K : PySem.W.Frag} {G G' : Hp} {σ : L2.St} {v : V} (g : Ex G G') : ∀ {o : Op}, OR K G σ v o → OR K G' σ v o
  | .slot _, h => h
  | .val _, h => VR.ex g h
theorem rsS_ok {d : D} : ∀ {o : Option (Option SV)}, rsS o = some d → o = some (some (.dat d)) ∨ ∃ ds, o = some (some (.olst ds)) ∧ d = .list ds
  | some (some (.dat _)), h => by cases h; exact .inl rfl
  | some (some (.olst ds)), h => by cases h; exact .inr ⟨ds, rfl, rfl⟩
  | some (some (.fdic _)), h => by cases h
  | some (some (.kdic _)), h => by cases h
  | some (some (.rlst _)), h => by cases h
  | some (some (.odic _ _)), h => by cases h
  | some none, h => by cases h
  | none, h => by cases h
theorem rsV_ok {d : D} : ∀ {o : SV}, rsV o = some d → o = .dat d
  | .dat _, h => by cases h; rfl
  | .fdic _, h => by cases h
  | .kdic _, h => by cases h
  | .rlst _, h => by cases h
  | .odic _ _, h => by cases h
  | .olst _, h => by cases h
theorem rs_ok {K : PySem.W.Frag} {G H : Hp} {σ : L2.St} {en : En} {v : V} {d : D} (R : Rel K G H σ en) : ∀ {o : Op}, OR K G σ v o → rs o en = some d → VD K G H v d
  | .slot i, h, e => by
    rcases rsS_ok (show rsS en[i]? = some d from e) with q | ⟨ds, q, rfl⟩
    · obtain ⟨w, hw, s⟩ := R.slot i _ q
      rw [show σ[i]? = some (some v) from h] at hw
      cases hw
      exact .inl s
    · obtain ⟨w, hw, a, vs, e1, e2, e3, e4⟩ := R.slot i _ q
      rw [show σ[i]? = some (some v) from h] at hw
      cases hw
      exact .inr ⟨a, vs, ds, e1, rfl, e2, e4⟩
  | .val sv, h, e => by
    have q := rsV_ok (show rsV sv = some d from e)
    subst q
    exact .inl h

/-- the readings -/
def tE (K : PySem.W.Frag) (f : M SV) : TE := fun σ H Q => ∃ G en sv en', Rel K G H σ en ∧ f en = some (sv, en') ∧ ∀ v G' H', Stp K σ G H en σ G' H' en' → VR K G' v sv → Q v H'
def tO (K : PySem.W.Frag) (f : M Op) : TE := fun σ H Q => ∃ G en o en', Rel K G H σ en ∧ f en = some (o, en') ∧ ∀ v G' H', Stp K σ G H en σ G' H' en' → OR K G' σ v o → Q v H'
def tT (K : PySem.W.Frag) (f : M Bool) : TT := fun σ H Q => ∃ G en b en', Rel K G H σ en ∧ f en = some (b, en') ∧ ∀ G' H', Stp K σ G H en σ G' H' en' → Q b H'
def tOs (K : PySem.W.Frag) (f : M (List Op)) : TA := fun σ H Q => ∃ G en os en', Rel K G H σ en ∧ f en = some (os, en') ∧ ∀ vs G' H', Stp K σ G H en σ G' H' en' → Paired (OR K G' σ) vs os → Q vs H'
/-- a new list that no one else has -/
def tL (K : PySem.W.Frag) (f : M (List D)) : TE := fun σ H Q => ∃ G en ds en', Rel K G H σ en ∧ f en = some (ds, en') ∧
  ∀ p vs G' H', Stp K σ G H en σ G' H' en' → H p = none → H' p = some (.lst vs) → G' p = none → DPs K G' vs ds → Q (.ref p) H'

theorem pe_weak {X : Cx} {e : Expr} {t t' : TE} (h : PE X e t) (w : ∀ σ H Q, t' σ H Q → t σ H Q) : PE X e t' := ⟨fun pins s σ H Q I q => h.run pins s σ H Q I (w σ H Q q)⟩
theorem pt_weak {X : Cx} {e : Expr} {t t' : TT} (h : PT X e t) (w : ∀ σ H Q, t' σ H Q → t σ H Q) : PT X e t' := ⟨fun pins s σ H Q I q => h.run pins s σ H Q I (w σ H Q q)⟩
theorem pw_weak {X : Cx} {e : Expr} {t t' : TT} (h : PW X e t) (w : ∀ σ H Q, t' σ H Q → t σ H Q) : PW X e t' := ⟨fun wh pins s σ H Q I q => h.run wh pins s σ H Q I (w σ H Q q)⟩
theorem pa_weak {X : Cx} {es : List Expr} {t t' : TA} (h : PA X es t) (w : ∀ σ H Q, t' σ H Q → t σ H Q) : PA X es t' := ⟨fun pos pins s σ H Q I q => h.run pos pins s σ H Q I (w σ H Q q)⟩

/-! #### operands -/
def fSlot (i : Nat) : M Op := fun en => some (.slot i, en)
def fVal (f : M SV) : M Op := fun en => (f en).bind fun p => some (.val p.1, p.2)
def isSet : Option (Option SV) → Bool
  | some (some _) => true
  | _ => false
def fSlotC (i : Nat) : M Op := fun en => if isSet en[i]? = true then some (.slot i, en) else none
section
variable {X : Cx} {K : PySem.W.Frag}
theorem isSet_ok {o : Option (Option SV)} (h : isSet o = true) : ∃ sv, o = some (some sv) := by
  cases o with
  | none => cases h
  | some p =>
    cases p with
    | none => cases h
    | some v => exact ⟨v, rfl⟩
theorem s_slot {e : Expr} {i : Nat} (h : PE X e (tVar i)) : PE X e (tO X.K (fSlotC i)) := pe_weak h fun σ H Q ⟨G, en, o, en', R, hf, k⟩ => by
  unfold fSlotC at hf
  split at hf
  · rename_i hs
    cases hf
    obtain ⟨sv, hsv⟩ := isSet_ok hs
    obtain ⟨v, hv, _⟩ := R.slot i sv hsv
    exact ⟨v, hv, k v G H (Stp.refl R) hv⟩
  · cases hf
theorem s_val {e : Expr} {f : M SV} (h : PE X e (tE X.K f)) : PE X e (tO X.K (fVal f)) := pe_weak h fun σ H Q ⟨G, en, o, en', R, hf, k⟩ => by
  obtain ⟨⟨sv, en1⟩, h1, h2⟩ := Option.bind_eq_some_iff.mp hf
  cases h2
  exact ⟨G, en, sv, en1, R, h1, fun v G' H' st r => k v G' H' st r⟩

/-! #### constants, names -/
def fLit (d : D) : M SV := fun en => some (.dat d, en)
theorem s_lit {e : Expr} {v : V} {d : D} (h : PE X e (tC v)) (hd : ∀ G, DP X.K G v d) : PE X e (tE X.K (fLit d)) := pe_weak h fun σ H Q ⟨G, en, sv, en', R, hf, k⟩ => by
  cases hf
  exact k v G H (Stp.refl R) (hd G)
/-- a name as a value: its own list, its own dict are given out for good -/
def varS : SV → Option (SV × SV)
  | .dat d => some (.dat d, .dat d)
  | .fdic kvs => some (.fdic kvs, .fdic kvs)
  | .kdic kvs => some (.kdic kvs, .kdic kvs)
  | .rlst ds => some (.rlst ds, .rlst ds)
  | .olst ds => some (.dat (.list ds), .dat (.list ds))
  | .odic false kvs => some (.fdic kvs, .fdic kvs)
  | .odic true _ => none
def slotAt (en : En) (i : Nat) : Option SV := (en[i]?).bind id
def fVar (i : Nat) : M SV := fun en => (slotAt en i).bind fun sv => (varS sv).bind fun p => some (p.1, en.set i (some p.2))
theorem slotAt_eq {en : En} {i : Nat} {sv : SV} (h : slotAt en i = some sv) : en[i]? = some (some sv) := by
  unfold slotAt at h
  obtain ⟨o, h1, h2⟩ := Option.bind_eq_some_iff.mp h
  rw [h1]
  exact congrArg some h2
theorem set_get {α : Type} {l : List α} {i j : Nat} {a b : α} (h : (l.set i a)[j]? = some b) : (j = i ∧ b = a) ∨ (j ≠ i ∧ l[j]? = some b) := by
  by_cases e : i = j
  · subst e
    by_cases hl : i < l.length
    · rw [List.getElem?_set_self hl] at h
      cases h
      exact .inl ⟨rfl, rfl⟩
    · rw [List.getElem?_eq_none (by simpa using hl)] at h
      cases h
  · rw [List.getElem?_set_ne e] at h
    exact .inr ⟨fun z => e z.symm, h⟩
/-- a slot's thing is frozen -/
theorem Rel.frozen {G H : Hp} {σ : L2.St} {en : En} {i : Nat} {sv sv' : SV} {a : Addr} {o : HO} (R : Rel K G H σ en) (he : en[i]? = some (some sv)) (hσ : σ[i]? = some (some (V.ref a))) (ho : H a = some o) (hg : G a = none) (hw : ownB sv = true)
    (hn : ownB sv' = false) (hv : VR K (upd G a o) (.ref a) sv') : Rel K (upd G a o) H σ (en.set i (some sv')) where
  gh := R.gh.freeze ho
  len := by rw [List.length_set]; exact R.len
  slot := fun j s e => by
    rcases set_get e with ⟨rfl, q⟩ | ⟨ne, e⟩
    · cases q
      exact ⟨_, hσ, VR.sr hv⟩
    · obtain ⟨v, hv', hs⟩ := R.slot j s e
      refine ⟨v, hv', hs.carry (Ex.new hg) fun b u hb1 hb2 hb3 hb4 => ⟨hb3, ?_⟩⟩
      rw [upd_ne ?_]
      · exact hb4
      · rintro rfl
        subst hb2
        exact ne (R.sep j i s sv _ e he hb1 hw hv' hσ)
  sep := fun j l s s' v e1 e2 w1 w2 => by
    rcases set_get e1 with ⟨rfl, q⟩ | ⟨_, e1⟩
    · cases q
      rw [hn] at w1; cases w1
    · rcases set_get e2 with ⟨rfl, q⟩ | ⟨_, e2⟩
      · cases q
        rw [hn] at w2; cases w2
      · exact R.sep j l s s' v e1 e2 w1 w2
theorem set_same {en : En} {i : Nat} {sv : SV} (h : en[i]? = some (some sv)) : en.set i (some sv) = en := by
  apply List.ext_getElem?
  intro j
  by_cases e : i = j
  · subst e
    rw [List.getElem?_set_self (List.getElem?_eq_some_iff.mp h).1, h]
  · rw [List.getElem?_set_ne e]
theorem Stp.frozen {G H : Hp} {σ : L2.St} {en : En} {i : Nat} {sv sv' : SV} {a : Addr} {o : HO} (R : Rel K G H σ en) (he : en[i]? = some (some sv)) (hσ : σ[i]? = some (some (V.ref a))) (ho : H a = some o) (hg : G a = none) (hw : ownB sv = true)
    (hp : ∀ kvs, sv ≠ .odic true kvs) (hn : ownB sv' = false) (hv : VR K (upd G a o) (.ref a) sv') : Stp K σ G H en σ (upd G a o) H (en.set i (some sv')) where
  rel := R.frozen he hσ ho hg hw hn hv
  ex := Ex.new hg
  frame := fun _ _ h _ => h
  live := fun _ h => h
  fresh := fun b q => by
    by_cases e : b = a
    · subst e; exact .inr (.inr ⟨i, sv, he, hw, hσ⟩)
    · rw [upd_ne e] at q; exact .inl q
  sub := fun b ⟨j, s, e, w, f⟩ => by
    rcases set_get e with ⟨_, q⟩ | ⟨_, e⟩
    · cases q; rw [hn] at w; cases w
    · exact .inl ⟨j, s, e, w, f⟩
  prot := fun j kvs e => by
    refine ⟨rfl, kvs, ?_⟩
    by_cases q : i = j
    · subst q
      rw [he] at e
      cases e
      exact absurd rfl (hp kvs)
    · rw [List.getElem?_set_ne q]; exact e
theorem s_var {e : Expr} {i : Nat} (h : PE X e (tVar i)) : PE X e (tE X.K (fVar i)) := pe_weak h fun σ H Q ⟨G, en, sv, en', R, hf, k⟩ => by
  obtain ⟨s0, h1, h2⟩ := Option.bind_eq_some_iff.mp hf
  obtain ⟨p, h3, h4⟩ := Option.bind_eq_some_iff.mp h2
  cases h4
  have he := slotAt_eq h1
  obtain ⟨v, hv, hs⟩ := R.slot i s0 he
  refine ⟨v, hv, ?_⟩
  cases s0 with
  | dat d => cases h3; rw [set_same he] at k; exact k v G H (Stp.refl R) hs
  | fdic d => cases h3; rw [set_same he] at k; exact k v G H (Stp.refl R) hs
  | kdic d => cases h3; rw [set_same he] at k; exact k v G H (Stp.refl R) hs
  | rlst d => cases h3; rw [set_same he] at k; exact k v G H (Stp.refl R) hs
  | olst ds =>
    cases h3
    obtain ⟨a, vs, rfl, e2, e3, e4⟩ := hs
    have hvr : VR X.K (upd G a (.lst vs)) (.ref a) (.dat (.list ds)) := .lst upd_same (dps_ex (Ex.new e3) _ _ e4)
    exact k _ _ H (Stp.frozen R he hv e2 e3 rfl (fun _ z => by cases z) rfl hvr) hvr
  | odic p kvs =>
    cases p with
    | true => cases h3
    | false =>
      cases h3
      obtain ⟨a, vs, rfl, e2, e3, e4⟩ := hs
      have hvr : VR X.K (upd G a (.dK vs)) (.ref a) (.fdic kvs) := ⟨a, vs, rfl, upd_same, e4.ex (Ex.new e3)⟩
      exact k _ _ H (Stp.frozen R he hv e2 e3 rfl (fun _ z => by cases z) rfl hvr) hvr

/-! #### operators -/
def fBin (o : Bin) (fa fb : M Op) : M SV := fun en => (fa en).bind fun p => (fb p.2).bind fun q => (rs p.1 q.2).bind fun d1 => (rs q.1 q.2).bind fun d2 => (binD o d1 d2).bind fun d => some (.dat d, q.2)
theorem two {G H : Hp} {σ : L2.St} {en en1 en2 : En} {o1 o2 : Op} {d1 d2 : D} {v1 v2 : V} {G1 H1 G2 H2 : Hp} (s1 : Stp K σ G H en σ G1 H1 en1) (s2 : Stp K σ G1 H1 en1 σ G2 H2 en2) (q1 : OR K G1 σ v1 o1) (q2 : OR K G2 σ v2 o2)
    (e1 : rs o1 en2 = some d1) (e2 : rs o2 en2 = some d2) : VD K G2 H2 v1 d1 ∧ VD K G2 H2 v2 d2 := ⟨rs_ok s2.rel (q1.ex s2.ex) e1, rs_ok s2.rel q2 e2⟩
variable {a b : Expr} {fa fb : M Op} {pos : Pos}
theorem s_bin (o : Bin) (ha : PE X a (tO X.K fa)) (hb : PE X b (tO X.K fb)) : PE X (.BinOp a o.op b pos) (tE X.K (fBin o fa fb)) := pe_weak (pe_op (bin_ok o) ha hb) fun σ H Q ⟨G, en, sv, en', R, hf, k⟩ => by
  obtain ⟨⟨o1, en1⟩, h1, hf⟩ := Option.bind_eq_some_iff.mp hf
  obtain ⟨⟨o2, en2⟩, h2, hf⟩ := Option.bind_eq_some_iff.mp hf
  obtain ⟨d1, e1, hf⟩ := Option.bind_eq_some_iff.mp hf
  obtain ⟨d2, e2, hf⟩ := Option.bind_eq_some_iff.mp hf
  obtain ⟨d, e3, hf⟩ := Option.bind_eq_some_iff.mp hf
  cases hf
  refine ⟨G, en, o1, en1, R, h1, fun v1 G1 H1 s1 q1 => ⟨G1, en1, o2, en2, s1.rel, h2, fun v2 G2 H2 s2 q2 => ?_⟩⟩
  obtain ⟨w1, w2⟩ := two s1 s2 q1 q2 e1 e2
  exact ⟨G2, d1, d2, d, s2.rel.gh, w1, w2, e3, fun v G' H' ps hv => k v G' H' ((s1.trans s2).trans (ps.stp s2.rel)) hv⟩
def negD : D → Option D
  | .int i => some (.int (-i))
  | _ => none
def fNeg (fa : M Op) : M SV := fun en => (fa en).bind fun p => (rs p.1 p.2).bind fun d1 => (negD d1).bind fun d => some (.dat d, p.2)
theorem s_neg (ha : PE X a (tO X.K fa)) : PE X (.UnaryOp .USub a pos) (tE X.K (fNeg fa)) := pe_weak (pe_un un_neg ha) fun σ H Q ⟨G, en, sv, en', R, hf, k⟩ => by
  obtain ⟨⟨o1, en1⟩, h1, hf⟩ := Option.bind_eq_some_iff.mp hf
  obtain ⟨d1, e1, hf⟩ := Option.bind_eq_some_iff.mp hf
  obtain ⟨d, e3, hf⟩ := Option.bind_eq_some_iff.mp hf
  cases hf
  refine ⟨G, en, o1, en1, R, h1, fun v1 G1 H1 s1 q1 => ?_⟩
  unfold negD at e3
  split at e3
  · cases e3
    have w1 := (rs_ok s1.rel q1 e1).int
    exact ⟨_, w1, k _ G1 H1 s1 (.int _)⟩
  · cases e3
def fCmp (o : Cm) (fa fb : M Op) : M Bool := fun en => (fa en).bind fun p => (fb p.2).bind fun q => (rs p.1 q.2).bind fun d1 => (rs q.1 q.2).bind fun d2 => (cmpD o d1 d2).bind fun d => some (d, q.2)
theorem cmp_core (o : Cm) {σ : L2.St} {H : Hp} {G : Hp} {en en' : En} {c : Bool} {Q : VK} (R : Rel K G H σ en) (hf : fCmp o fa fb en = some (c, en')) (k : ∀ G' H', Stp K σ G H en σ G' H' en' → Q (.bl c) H') :
    tOp (rCm K (cmpD o)) (tO K fa) (tO K fb) σ H Q := by
  obtain ⟨⟨o1, en1⟩, h1, hf⟩ := Option.bind_eq_some_iff.mp hf
  obtain ⟨⟨o2, en2⟩, h2, hf⟩ := Option.bind_eq_some_iff.mp hf
  obtain ⟨d1, e1, hf⟩ := Option.bind_eq_some_iff.mp hf
  obtain ⟨d2, e2, hf⟩ := Option.bind_eq_some_iff.mp hf
  obtain ⟨d, e3, hf⟩ := Option.bind_eq_some_iff.mp hf
  cases hf
  refine ⟨G, en, o1, en1, R, h1, fun v1 G1 H1 s1 q1 => ⟨G1, en1, o2, en2, s1.rel, h2, fun v2 G2 H2 s2 q2 => ?_⟩⟩
  obtain ⟨w1, w2⟩ := two s1 s2 q1 q2 e1 e2
  exact ⟨G2, d1, d2, c, s2.rel.gh, w1, w2, e3, k G2 H2 (s1.trans s2)⟩
/-- a test's answer as a value -/
def fTest (f : M Bool) : M SV := fun en => (f en).bind fun p => some (.dat (.bool p.1), p.2)
theorem s_cmp (o : Cm) (hu : X.A.units + 65 < cLine) (ha : PE X a (tO X.K fa)) (hb : PE X b (tO X.K fb)) (hm : behindInMarks o.op b = false) : PE X (.Compare a [o.op] [b] pos) (tE X.K (fTest (fCmp o fa fb))) :=
  pe_weak (pe_cmpR (cmp_ok o hu) ha hb hm) fun σ H Q ⟨G, en, sv, en', R, hf, k⟩ => by
    obtain ⟨⟨c, en1⟩, h1, hf⟩ := Option.bind_eq_some_iff.mp hf
    cases hf
    exact cmp_core o R h1 fun G' H' st => k _ G' H' st (.bl c)
theorem s_cmpT (o : Cm) (hu : X.A.units + 65 < cLine) (ha : PE X a (tO X.K fa)) (hb : PE X b (tO X.K fb)) (hm : behindInMarks o.op b = false) : PT X (.Compare a [o.op] [b] pos) (tT X.K (fCmp o fa fb)) :=
  pt_weak (pt_cmpR (cmp_ok o hu) ha hb hm) fun σ H Q ⟨G, en, c, en', R, hf, k⟩ => cmp_core o R hf fun G' H' st => ⟨c, rfl, k G' H' st⟩
/-- a < b < c -/
def fChain (o o' : Cm) (fa fb fc : M Op) : M Bool := fun en => (fa en).bind fun p => (fb p.2).bind fun q => (rs p.1 q.2).bind fun d1 => (rs q.1 q.2).bind fun d2 => (cmpD o d1 d2).bind fun d =>
  if d = true then (fc q.2).bind fun r => (rs q.1 r.2).bind fun d2' => (rs r.1 r.2).bind fun d3 => (cmpD o' d2' d3).bind fun d' => some (d', r.2) else some (false, q.2)
end
end Pf

namespace Pf
open PySem L2
section
variable {X : Cx} {K : PySem.W.Frag} {a b c : Expr} {fa fb fc : M Op} {pos : Pos}
theorem chain_core (o o' : Cm) {σ : L2.St} {H : Hp} {G : Hp} {en en' : En} {c : Bool} {Q : VK} (R : Rel K G H σ en) (hf : fChain o o' fa fb fc en = some (c, en')) (k : ∀ G' H', Stp K σ G H en σ G' H' en' → Q (.bl c) H') :
    tChain (rCm K (cmpD o)) (rCm K (cmpD o')) (tO K fa) (tO K fb) (tO K fc) σ H Q := by
  obtain ⟨⟨o1, en1⟩, h1, hf⟩ := Option.bind_eq_some_iff.mp hf
  obtain ⟨⟨o2, en2⟩, h2, hf⟩ := Option.bind_eq_some_iff.mp hf
  obtain ⟨d1, e1, hf⟩ := Option.bind_eq_some_iff.mp hf
  obtain ⟨d2, e2, hf⟩ := Option.bind_eq_some_iff.mp hf
  obtain ⟨d, e3, hf⟩ := Option.bind_eq_some_iff.mp hf
  refine ⟨G, en, o1, en1, R, h1, fun v1 G1 H1 s1 q1 => ⟨G1, en1, o2, en2, s1.rel, h2, fun v2 G2 H2 s2 q2 => ?_⟩⟩
  obtain ⟨w1, w2⟩ := two s1 s2 q1 q2 e1 e2
  refine ⟨G2, d1, d2, d, s2.rel.gh, w1, w2, e3, d, rfl, ?_⟩
  cases d with
  | false =>
    rw [if_neg Bool.false_ne_true] at hf ⊢
    cases hf
    exact k G2 H2 (s1.trans s2)
  | true =>
    rw [if_pos rfl] at hf ⊢
    obtain ⟨⟨o3, en3⟩, h3, hf⟩ := Option.bind_eq_some_iff.mp hf
    obtain ⟨d2', e2', hf⟩ := Option.bind_eq_some_iff.mp hf
    obtain ⟨d3, e4, hf⟩ := Option.bind_eq_some_iff.mp hf
    obtain ⟨d', e5, hf⟩ := Option.bind_eq_some_iff.mp hf
    cases hf
    refine ⟨G2, en2, o3, en3, s2.rel, h3, fun v3 G3 H3 s3 q3 => ?_⟩
    exact ⟨G3, d2', d3, c, s3.rel.gh, rs_ok s3.rel (q2.ex s3.ex) e2', rs_ok s3.rel q3 e4, e5, k G3 H3 ((s1.trans s2).trans s3)⟩
theorem s_chain (o o' : Cm) (hu : X.A.units + 65 < cLine) (ha : PE X a (tO X.K fa)) (hb : PE X b (tO X.K fb)) (hc : PE X c (tO X.K fc)) (hm : lastMarks [o.op, o'.op] [b, c] = false) :
    PE X (.Compare a [o.op, o'.op] [b, c] pos) (tE X.K (fTest (fChain o o' fa fb fc))) :=
  pe_weak (pe_chain (cmp_ok o hu) (cmp_ok o' hu) ha hb hc hm) fun σ H Q ⟨G, en, sv, en', R, hf, k⟩ => by
    obtain ⟨⟨c, en1⟩, h1, hf⟩ := Option.bind_eq_some_iff.mp hf
    cases hf
    exact chain_core o o' R h1 fun G' H' st => k _ G' H' st (.bl c)
theorem s_chainT (o o' : Cm) (hu : X.A.units + 65 < cLine) (ha : PE X a (tO X.K fa)) (hb : PE X b (tO X.K fb)) (hc : PE X c (tO X.K fc)) (hm : lastMarks [o.op, o'.op] [b, c] = false) :
    PT X (.Compare a [o.op, o'.op] [b, c] pos) (tT X.K (fChain o o' fa fb fc)) :=
  pt_weak (pt_chain (cmp_ok o hu) (cmp_ok o' hu) ha hb hc hm) fun σ H Q ⟨G, en, c, en', R, hf, k⟩ => chain_core o o' R hf fun G' H' st => ⟨c, rfl, k G' H' st⟩

/-! #### and, or, not -/
def fAnd (f g : M Bool) : M Bool := fun en => (f en).bind fun p => if p.1 = true then g p.2 else some (false, p.2)
def fOr (f g : M Bool) : M Bool := fun en => (f en).bind fun p => if p.1 = true then some (true, p.2) else g p.2
def fNot (f : M Bool) : M Bool := fun en => (f en).bind fun p => some (!p.1, p.2)
variable {f g : M Bool} {rest : List Expr}
theorem s_andT (ha : PT X a (tT X.K f)) (hb : PW X (.BoolOp .And (b :: rest) pos) (tT X.K g)) : PW X (.BoolOp .And (a :: b :: rest) pos) (tT X.K (fAnd f g)) :=
  pw_weak (pw_and ha hb) fun σ H Q ⟨G, en, c, en', R, hf, k⟩ => by
    obtain ⟨⟨d, en1⟩, h1, hf⟩ := Option.bind_eq_some_iff.mp hf
    refine ⟨G, en, d, en1, R, h1, fun G1 H1 s1 => ?_⟩
    cases d with
    | true => exact iteT ⟨G1, en1, c, en', s1.rel, hf, fun G' H' st => k G' H' (s1.trans st)⟩
    | false => cases hf; exact iteF (k G1 H1 s1)
theorem s_orT (ha : PT X a (tT X.K f)) (hb : PW X (.BoolOp .Or (b :: rest) pos) (tT X.K g)) : PW X (.BoolOp .Or (a :: b :: rest) pos) (tT X.K (fOr f g)) :=
  pw_weak (pw_or ha hb) fun σ H Q ⟨G, en, c, en', R, hf, k⟩ => by
    obtain ⟨⟨d, en1⟩, h1, hf⟩ := Option.bind_eq_some_iff.mp hf
    refine ⟨G, en, d, en1, R, h1, fun G1 H1 s1 => ?_⟩
    cases d with
    | false => exact iteF ⟨G1, en1, c, en', s1.rel, hf, fun G' H' st => k G' H' (s1.trans st)⟩
    | true => cases hf; exact iteT (k G1 H1 s1)
theorem s_notT (ha : PT X a (tT X.K f)) : PT X (.UnaryOp .Not a pos) (tT X.K (fNot f)) :=
  pt_weak (pt_not ha) fun σ H Q ⟨G, en, c, en', R, hf, k⟩ => by
    obtain ⟨⟨d, en1⟩, h1, hf⟩ := Option.bind_eq_some_iff.mp hf
    cases hf
    exact ⟨G, en, d, en1, R, h1, fun G1 H1 s1 => k G1 H1 s1⟩
theorem s_andE (ha : PE X a (tE X.K (fTest f))) (hb : PE X (.BoolOp .And (b :: rest) pos) (tE X.K (fTest g))) : PE X (.BoolOp .And (a :: b :: rest) pos) (tE X.K (fTest (fAnd f g))) :=
  pe_weak (pe_and ha hb) fun σ H Q ⟨G, en, sv, en', R, hf, k⟩ => by
    obtain ⟨⟨c, en2⟩, hg, h2⟩ := Option.bind_eq_some_iff.mp hf
    cases h2
    obtain ⟨⟨d, en1⟩, h1, hg⟩ := Option.bind_eq_some_iff.mp hg
    refine ⟨G, en, _, en1, R, by unfold fTest; rw [h1]; rfl, fun v G1 H1 s1 r => ?_⟩
    cases (show DP X.K G1 v (.bool d) from r)
    refine ⟨d, rfl, ?_⟩
    cases d with
    | true => exact iteT ⟨G1, en1, _, en2, s1.rel, by unfold fTest; rw [show g en1 = some (c, en2) from hg]; rfl, fun v G' H' st r => k v G' H' (s1.trans st) r⟩
    | false => cases hg; exact iteF (k _ G1 H1 s1 (.bl false))
theorem s_orE (ha : PE X a (tE X.K (fTest f))) (hb : PE X (.BoolOp .Or (b :: rest) pos) (tE X.K (fTest g))) : PE X (.BoolOp .Or (a :: b :: rest) pos) (tE X.K (fTest (fOr f g))) :=
  pe_weak (pe_or ha hb) fun σ H Q ⟨G, en, sv, en', R, hf, k⟩ => by
    obtain ⟨⟨c, en2⟩, hg, h2⟩ := Option.bind_eq_some_iff.mp hf
    cases h2
    obtain ⟨⟨d, en1⟩, h1, hg⟩ := Option.bind_eq_some_iff.mp hg
    refine ⟨G, en, _, en1, R, by unfold fTest; rw [h1]; rfl, fun v G1 H1 s1 r => ?_⟩
    cases (show DP X.K G1 v (.bool d) from r)
    refine ⟨d, rfl, ?_⟩
    cases d with
    | false => exact iteF ⟨G1, en1, _, en2, s1.rel, by unfold fTest; rw [show g en1 = some (c, en2) from hg]; rfl, fun v G' H' st r => k v G' H' (s1.trans st) r⟩
    | true => cases hg; exact iteT (k _ G1 H1 s1 (.bl true))
theorem s_notE (ha : PE X a (tE X.K (fTest f))) : PE X (.UnaryOp .Not a pos) (tE X.K (fTest (fNot f))) :=
  pe_weak (pe_not ha) fun σ H Q ⟨G, en, sv, en', R, hf, k⟩ => by
    obtain ⟨⟨c, en2⟩, hg, h2⟩ := Option.bind_eq_some_iff.mp hf
    cases h2
    obtain ⟨⟨d, en1⟩, h1, hg⟩ := Option.bind_eq_some_iff.mp hg
    cases hg
    refine ⟨G, en, _, _, R, by unfold fTest; rw [h1]; rfl, fun v G1 H1 s1 r => ?_⟩
    cases (show DP X.K G1 v (.bool d) from r)
    exact ⟨d, rfl, k _ G1 H1 s1 (.bl _)⟩
/-- a value that is True or False, as a test -/
def boolS : SV → Option Bool
  | .dat (.bool b) => some b
  | _ => none
theorem boolS_ok {b : Bool} : ∀ {sv : SV}, boolS sv = some b → sv = .dat (.bool b)
  | .dat (.bool _), h => by cases h; rfl
  | .dat .none, h => by cases h
  | .dat (.int _), h => by cases h
  | .dat (.str _), h => by cases h
  | .dat (.list _), h => by cases h
  | .dat (.tuple _), h => by cases h
  | .dat (.dict _), h => by cases h
  | .fdic _, h => by cases h
  | .kdic _, h => by cases h
  | .rlst _, h => by cases h
  | .odic _ _, h => by cases h
  | .olst _, h => by cases h
def fBool (f : M SV) : M Bool := fun en => (f en).bind fun p => (boolS p.1).bind fun b => some (b, p.2)
variable {h : M SV}
theorem bool_test {en en' : En} {sv : SV} (e : fTest (fBool h) en = some (sv, en')) : h en = some (sv, en') := by
  obtain ⟨⟨c, en2⟩, hf, h2⟩ := Option.bind_eq_some_iff.mp e
  cases h2
  obtain ⟨⟨d, en1⟩, h1, hg⟩ := Option.bind_eq_some_iff.mp hf
  obtain ⟨b, h3, hg⟩ := Option.bind_eq_some_iff.mp hg
  cases hg
  have h4 : d = .dat (.bool c) := boolS_ok h3
  subst h4
  exact h1
theorem s_valE (ha : PE X a (tE X.K h)) : PE X a (tE X.K (fTest (fBool h))) := pe_weak ha fun σ H Q ⟨G, en, sv, en', R, hf, k⟩ => ⟨G, en, sv, en', R, bool_test hf, k⟩
theorem s_valT (ha : PE X a (tE X.K h)) (he : ∀ whole, isTrue a X.env whole = (do let v ← whole; standAt a.pos; holding [v] (truthy v))) : PT X a (tT X.K (fBool h)) :=
  pt_weak (pt_val ha he) fun σ H Q ⟨G, en, c, en', R, hf, k⟩ => by
    obtain ⟨⟨d, en1⟩, h1, hf⟩ := Option.bind_eq_some_iff.mp hf
    obtain ⟨b, h3, hf⟩ := Option.bind_eq_some_iff.mp hf
    cases hf
    have e := boolS_ok h3
    subst e
    refine ⟨G, en, _, _, R, h1, fun v G1 H1 s1 r => ?_⟩
    cases (show DP X.K G1 v (.bool c) from r)
    exact ⟨c, rfl, k G1 H1 s1⟩
/-- a if t else b -/
def fIte (f : M Bool) (h h' : M SV) : M SV := fun en => (f en).bind fun p => if p.1 = true then h p.2 else h' p.2
variable {h' : M SV}
theorem s_ite {t : Expr} (ht : PT X t (tT X.K f)) (ha : PE X a (tE X.K h)) (hb : PE X b (tE X.K h')) : PE X (.IfExp t a b pos) (tE X.K (fIte f h h')) :=
  pe_weak (pe_ifExp ht ha hb) fun σ H Q ⟨G, en, sv, en', R, hf, k⟩ => by
    obtain ⟨⟨d, en1⟩, h1, hf⟩ := Option.bind_eq_some_iff.mp hf
    refine ⟨G, en, d, en1, R, h1, fun G1 H1 s1 => ?_⟩
    cases d with
    | true => exact iteT ⟨G1, en1, sv, en', s1.rel, hf, fun v G' H' st r => k v G' H' (s1.trans st) r⟩
    | false => exact iteF ⟨G1, en1, sv, en', s1.rel, hf, fun v G' H' st r => k v G' H' (s1.trans st) r⟩

/-! #### subscripts -/
def fAt (fa fb : M Op) : M SV := fun en => (fa en).bind fun p => (fb p.2).bind fun q => (rs p.1 q.2).bind fun d1 => (rs q.1 q.2).bind fun d2 => (atD d1 d2).bind fun d => some (.dat d, q.2)
theorem s_at (ha : PE X a (tO X.K fa)) (hb : PE X b (tO X.K fb)) (hs : PlainIx b) : PE X (.Subscript a b pos) (tE X.K (fAt fa fb)) := pe_weak (pe_ix at_ok ha hb hs) fun σ H Q ⟨G, en, sv, en', R, hf, k⟩ => by
  obtain ⟨⟨o1, en1⟩, h1, hf⟩ := Option.bind_eq_some_iff.mp hf
  obtain ⟨⟨o2, en2⟩, h2, hf⟩ := Option.bind_eq_some_iff.mp hf
  obtain ⟨d1, e1, hf⟩ := Option.bind_eq_some_iff.mp hf
  obtain ⟨d2, e2, hf⟩ := Option.bind_eq_some_iff.mp hf
  obtain ⟨d, e3, hf⟩ := Option.bind_eq_some_iff.mp hf
  cases hf
  refine ⟨G, en, o1, en1, R, h1, fun v1 G1 H1 s1 q1 => ⟨G1, en1, o2, en2, s1.rel, h2, fun v2 G2 H2 s2 q2 => ?_⟩⟩
  obtain ⟨w1, w2⟩ := two s1 s2 q1 q2 e1 e2
  exact ⟨G2, d1, d2, d, s2.rel.gh, w1, w2, e3, fun v r => k v G2 H2 (s1.trans s2) r⟩
/-- the script's item -/
def rlS : Option (Option SV) → Option (List D)
  | some (some (.rlst ds)) => some ds
  | _ => none
theorem rlS_ok {ds : List D} : ∀ {o : Option (Option SV)}, rlS o = some ds → o = some (some (.rlst ds))
  | some (some (.rlst _)), h => by cases h; rfl
  | some (some (.dat _)), h => by cases h
  | some (some (.olst _)), h => by cases h
  | some (some (.fdic _)), h => by cases h
  | some (some (.kdic _)), h => by cases h
  | some (some (.odic _ _)), h => by cases h
  | some none, h => by cases h
  | none, h => by cases h
def intV : D → Option Int
  | .int i => some i
  | _ => none
theorem intV_ok {i : Int} : ∀ {d : D}, intV d = some i → d = .int i
  | .int _, h => by cases h; rfl
  | .none, h => by cases h
  | .bool _, h => by cases h
  | .str _, h => by cases h
  | .list _, h => by cases h
  | .tuple _, h => by cases h
  | .dict _, h => by cases h
def fAtR (i : Nat) (fb : M Op) : M SV := fun en => (fb en).bind fun q => (rlS en[i]?).bind fun ds => (rs q.1 q.2).bind fun d2 => (intV d2).bind fun j => (atI ds j).bind fun d => some (.dat d, q.2)
theorem s_atR {i : Nat} (ha : PE X a (tVar i)) (hb : PE X b (tO X.K fb)) (hs : PlainIx b) : PE X (.Subscript a b pos) (tE X.K (fAtR i fb)) := pe_weak (pe_ix ix_list ha hb hs) fun σ H Q ⟨G, en, sv, en', R, hf, k⟩ => by
  obtain ⟨⟨o2, en2⟩, h2, hf⟩ := Option.bind_eq_some_iff.mp hf
  obtain ⟨ds, e1, hf⟩ := Option.bind_eq_some_iff.mp hf
  obtain ⟨d2, e2, hf⟩ := Option.bind_eq_some_iff.mp hf
  obtain ⟨j, e4, hf⟩ := Option.bind_eq_some_iff.mp hf
  obtain ⟨d, e3, hf⟩ := Option.bind_eq_some_iff.mp hf
  cases hf
  have q := rlS_ok e1
  obtain ⟨v, hv, l, vs, rfl, hl, hd⟩ := R.slot i _ q
  refine ⟨_, hv, G, en, o2, en2, R, h2, fun v2 G2 H2 s2 q2 => ?_⟩
  obtain ⟨w, hw, hdw⟩ := hd.at e3
  have e5 := intV_ok e4
  subst e5
  exact ⟨l, vs, j, w, rfl, (rs_ok s2.rel q2 e2).int, seqL_gh s2.rel.gh (seqL_ex s2.ex hl), hw, k w G2 H2 s2 (dp_ex s2.ex _ _ hdw)⟩
def fLenR (i : Nat) : M SV := fun en => (rlS en[i]?).bind fun ds => some (.dat (.int ds.length), en)
theorem s_lenR {i : Nat} {x : Str} {p : Pos} (hx : x = "len") (hg : Gl X x) (hm : X.mg x = none) (ha : PE X a (tVar i)) (hs : starEach [a] X.env = (false, eval a X.env) :: starEach [] X.env) : PE X (.Call (.Name x p) [a] [] pos) (tE X.K (fLenR i)) := by
  subst hx
  refine pe_weak (pe_callB call_len_seq hg hm PySem.boot_len (pa_cons ha pa_nil hs) (by decide) (by decide) hs) fun σ H Q ⟨G, en, sv, en', R, hf, k⟩ => ?_
  obtain ⟨ds, e1, hf⟩ := Option.bind_eq_some_iff.mp hf
  cases hf
  have q := rlS_ok e1
  obtain ⟨v, hv, l, vs, rfl, hl, hd⟩ := R.slot i _ q
  refine ⟨_, hv, l, vs, rfl, .inl (seqL_gh R.gh hl), ?_⟩
  rw [hd.length]
  exact k _ G H (Stp.refl R) (.int _)

/-! #### slices -/
def tPt (K : PySem.W.Frag) (f : M (Option Int)) : TO := fun σ H Q => ∃ G en b en', Rel K G H σ en ∧ f en = some (b, en') ∧ ∀ G' H', Stp K σ G H en σ G' H' en' → Q b H'
def fNoPart : M (Option Int) := fun en => some (none, en)
def fPart (fa : M Op) : M (Option Int) := fun en => (fa en).bind fun p => (rs p.1 p.2).bind fun d => (intV d).bind fun i => some (some i, p.2)
theorem s_noPart : PO X none (tPt X.K fNoPart) := ⟨fun pins s σ H Q I ⟨G, en, c, en', R, hf, k⟩ => by
  cases hf
  exact po_none.run pins s σ H Q I (k G H (Stp.refl R))⟩
theorem s_part (ha : PE X a (tO X.K fa)) : PO X (some a) (tPt X.K (fPart fa)) := ⟨fun pins s σ H Q I ⟨G, en, c, en', R, hf, k⟩ => by
  obtain ⟨⟨o1, en1⟩, h1, hf⟩ := Option.bind_eq_some_iff.mp hf
  obtain ⟨d1, e1, hf⟩ := Option.bind_eq_some_iff.mp hf
  obtain ⟨i, e2, hf⟩ := Option.bind_eq_some_iff.mp hf
  cases hf
  have e5 := intV_ok e2
  subst e5
  exact (po_some ha).run pins s σ H Q I ⟨G, en, o1, _, R, h1, fun v G' H' st q => ⟨i, (rs_ok st.rel q e1).int, k G' H' st⟩⟩⟩
def fCut (fa : M Op) (fl fh : M (Option Int)) : M SV := fun en => (fa en).bind fun p => (fl p.2).bind fun q => (fh q.2).bind fun r => (rs p.1 r.2).bind fun d1 => (cutD d1 q.1 r.1).bind fun d => some (.dat d, r.2)
theorem s_cut {lo hi : Option Expr} {fl fh : M (Option Int)} {p2 : Pos} (ha : PE X a (tO X.K fa)) (hl : PO X lo (tPt X.K fl)) (hh : PO X hi (tPt X.K fh)) : PE X (.Subscript a (.Slice lo hi none p2) pos) (tE X.K (fCut fa fl fh)) :=
  pe_weak (pe_slice cut_ok ha hl hh) fun σ H Q ⟨G, en, sv, en', R, hf, k⟩ => by
    obtain ⟨⟨o1, en1⟩, h1, hf⟩ := Option.bind_eq_some_iff.mp hf
    obtain ⟨⟨l, en2⟩, h2, hf⟩ := Option.bind_eq_some_iff.mp hf
    obtain ⟨⟨u, en3⟩, h3, hf⟩ := Option.bind_eq_some_iff.mp hf
    obtain ⟨d1, e1, hf⟩ := Option.bind_eq_some_iff.mp hf
    obtain ⟨d, e3, hf⟩ := Option.bind_eq_some_iff.mp hf
    cases hf
    refine ⟨G, en, o1, en1, R, h1, fun v1 G1 H1 s1 q1 => ⟨G1, en1, l, en2, s1.rel, h2, fun G2 H2 s2 => ⟨G2, en2, u, en3, s2.rel, h3, fun G3 H3 s3 => ?_⟩⟩⟩
    exact ⟨G3, d1, d, s3.rel.gh, rs_ok s3.rel (q1.ex (s2.ex.trans s3.ex)) e1, e3, fun v G' H' ps r => k v G' H' (((s1.trans s2).trans s3).trans (ps.stp s3.rel)) r⟩

/-! #### argument lists -/
def fOs0 : M (List Op) := fun en => some ([], en)
def fOs (fa : M Op) (fr : M (List Op)) : M (List Op) := fun en => (fa en).bind fun p => (fr p.2).bind fun q => some (p.1 :: q.1, q.2)
variable {es : List Expr} {fr : M (List Op)}
theorem s_os0 : PA X [] (tOs X.K fOs0) := pa_weak pa_nil fun σ H Q ⟨G, en, os, en', R, hf, k⟩ => by
  cases hf
  exact k _ G H (Stp.refl R) .nil
theorem paired_imp {α β : Type} {F F' : α → β → Prop} {l : List α} {m : List β} (h : Paired F l m) (g : ∀ a b, F a b → F' a b) : Paired F' l m := Paired.mapP h g
theorem s_os (ha : PE X a (tO X.K fa)) (hr : PA X es (tOs X.K fr)) (hs : starEach (a :: es) X.env = (false, eval a X.env) :: starEach es X.env) : PA X (a :: es) (tOs X.K (fOs fa fr)) := pa_weak (pa_cons ha hr hs) fun σ H Q ⟨G, en, os, en', R, hf, k⟩ => by
  obtain ⟨⟨o1, en1⟩, h1, hf⟩ := Option.bind_eq_some_iff.mp hf
  obtain ⟨⟨o2, en2⟩, h2, hf⟩ := Option.bind_eq_some_iff.mp hf
  cases hf
  exact ⟨G, en, o1, en1, R, h1, fun v G1 H1 s1 q1 => ⟨G1, en1, o2, _, s1.rel, h2, fun vs G2 H2 s2 q2 => k (v :: vs) G2 H2 (s1.trans s2) (.cons (q1.ex s2.ex) q2)⟩⟩
def rsAll : List Op → En → Option (List D)
  | [], _ => some []
  | o :: os, en => (rs o en).bind fun d => (rsAll os en).bind fun ds => some (d :: ds)
theorem rsAll_ok {G H : Hp} {σ : L2.St} {en : En} (R : Rel K G H σ en) : ∀ {os : List Op} {vs : List V} {ds : List D}, Paired (OR K G σ) vs os → rsAll os en = some ds → VDs K G H vs ds
  | [], _, _, .nil, e => by cases e; exact .nil
  | o :: os, _, ds, .cons r t, e => by
    obtain ⟨d, e1, e⟩ := Option.bind_eq_some_iff.mp e
    obtain ⟨ds', e2, e⟩ := Option.bind_eq_some_iff.mp e
    cases e
    exact .cons (rs_ok R r e1) (rsAll_ok R t e2)
def fFn (g : Fn) (fr : M (List Op)) : M SV := fun en => (fr en).bind fun p => (rsAll p.1 p.2).bind fun ds => (fnD g ds).bind fun d => some (.dat d, p.2)
theorem fn_core {g : Fn} : ∀ σ H Q, tE K (fFn g fr) σ H Q → tCB (rFn K (fnD g)) (tOs K fr) σ H Q := fun σ H Q ⟨G, en, sv, en', R, hf, k⟩ => by
  obtain ⟨⟨os, en1⟩, h1, hf⟩ := Option.bind_eq_some_iff.mp hf
  obtain ⟨ds, e1, hf⟩ := Option.bind_eq_some_iff.mp hf
  obtain ⟨d, e2, hf⟩ := Option.bind_eq_some_iff.mp hf
  cases hf
  exact ⟨G, en, os, _, R, h1, fun vs G1 H1 s1 q => ⟨G1, ds, d, s1.rel.gh, rsAll_ok s1.rel q e1, e2, fun v G' H' ps r => k v G' H' (s1.trans (ps.stp s1.rel)) r⟩⟩
theorem s_fn (g : Fn) {x : Str} {p : Pos} (hc : X.calm = true) (hx : x = g.name) (hg : Gl X x) (hm : X.mg x = none) (ha : PA X (a :: es) (tOs X.K fr)) (he : starEach (a :: es) X.env = (false, eval a X.env) :: starEach es X.env)
    (hpl : (backTo pos (starEach es X.env)).any (·.1) = false) : PE X (.Call (.Name x p) (a :: es) [] pos) (tE X.K (fFn g fr)) := by
  have hn : x ≠ "__name__" := by subst hx; cases g <;> decide
  have hd : (x == ("__debug__" : Str)) = false := by subst hx; cases g <;> decide
  have hb : bootBuiltins x = some g.val := by subst hx; cases g <;> decide +kernel
  have hk := fn_ok (X := X) g hc
  cases g with
  | int => exact pe_weak (pe_callTy hk hg hm hb ha hn hd he hpl) fn_core
  | _ => exact pe_weak (pe_callB hk hg hm hb ha hn hd he hpl) fn_core
end
end Pf

namespace Pf
open PySem L2

/-! #### lists of values, displays -/
def tVs (K : PySem.W.Frag) (f : M (List SV)) : TA := fun σ H Q => ∃ G en os en', Rel K G H σ en ∧ f en = some (os, en') ∧ ∀ vs G' H', Stp K σ G H en σ G' H' en' → Paired (VR K G') vs os → Q vs H'
def fVs0 : M (List SV) := fun en => some ([], en)
def fVs (h : M SV) (fr : M (List SV)) : M (List SV) := fun en => (h en).bind fun p => (fr p.2).bind fun q => some (p.1 :: q.1, q.2)
def datS : SV → Option D
  | .dat d => some d
  | _ => none
theorem datS_ok {d : D} : ∀ {o : SV}, datS o = some d → o = .dat d
  | .dat _, h => by cases h; rfl
  | .fdic _, h => by cases h
  | .kdic _, h => by cases h
  | .rlst _, h => by cases h
  | .odic _ _, h => by cases h
  | .olst _, h => by cases h
def datsS : List SV → Option (List D)
  | [] => some []
  | s :: r => (datS s).bind fun d => (datsS r).bind fun ds => some (d :: ds)
theorem datsS_ok {K : PySem.W.Frag} {G : Hp} : ∀ {ss : List SV} {vs : List V} {ds : List D}, Paired (VR K G) vs ss → datsS ss = some ds → DPs K G vs ds
  | [], _, _, .nil, e => by cases e; exact .nil
  | s :: ss, _, ds, .cons r t, e => by
    obtain ⟨d, e1, e⟩ := Option.bind_eq_some_iff.mp e
    obtain ⟨ds', e2, e⟩ := Option.bind_eq_some_iff.mp e
    cases e
    have q := datS_ok e1
    subst q
    exact .cons r (datsS_ok t e2)
section
variable {X : Cx} {K : PySem.W.Frag} {a b : Expr} {es : List Expr} {h : M SV} {fr : M (List SV)} {fa fb : M Op} {pos : Pos}
theorem s_vs0 : PA X [] (tVs X.K fVs0) := pa_weak pa_nil fun σ H Q ⟨G, en, os, en', R, hf, k⟩ => by
  cases hf
  exact k _ G H (Stp.refl R) .nil
theorem s_vs (ha : PE X a (tE X.K h)) (hr : PA X es (tVs X.K fr)) (hs : starEach (a :: es) X.env = (false, eval a X.env) :: starEach es X.env) : PA X (a :: es) (tVs X.K (fVs h fr)) := pa_weak (pa_cons ha hr hs) fun σ H Q ⟨G, en, os, en', R, hf, k⟩ => by
  obtain ⟨⟨o1, en1⟩, h1, hf⟩ := Option.bind_eq_some_iff.mp hf
  obtain ⟨⟨o2, en2⟩, h2, hf⟩ := Option.bind_eq_some_iff.mp hf
  cases hf
  exact ⟨G, en, o1, en1, R, h1, fun v G1 H1 s1 q1 => ⟨G1, en1, o2, _, s1.rel, h2, fun vs G2 H2 s2 q2 => k (v :: vs) G2 H2 (s1.trans s2) (.cons (q1.ex s2.ex) q2)⟩⟩
def fTup (fr : M (List SV)) : M SV := fun en => (fr en).bind fun p => (datsS p.1).bind fun ds => if ds.length ≤ lim then some (.dat (.tuple ds), p.2) else none
theorem s_tup {k : Nat} (ha : PA X es (tVs X.K fr)) : PE X (.Tuple es k pos) (tE X.K (fTup fr)) := pe_weak (peX_tup ha) fun σ H Q ⟨G, en, sv, en', R, hf, k⟩ => by
  obtain ⟨⟨os, en1⟩, h1, hf⟩ := Option.bind_eq_some_iff.mp hf
  obtain ⟨ds, e1, hf⟩ := Option.bind_eq_some_iff.mp hf
  split at hf
  · rename_i hl
    cases hf
    refine ⟨G, en, os, _, R, h1, fun vs G1 H1 s1 q => ?_⟩
    have hd := datsS_ok q e1
    refine ⟨by rw [hd.length]; exact Nat.le_trans hl line_lim, fun p its hp => ?_⟩
    have ps : Pst G1 H1 (upd G1 p (.frz (tupO its) (.tup vs))) (upd H1 p (.frz (tupO its) (.tup vs))) := Pst.new s1.rel.gh hp
    exact k _ _ _ (s1.trans (ps.stp s1.rel)) (.tup (.inl ⟨its, upd_same⟩) (dps_ex ps.ex _ _ hd))
  · cases hf
/-! #### new lists -/
/-- as tL, and no slot has it -/
def tN (K : PySem.W.Frag) (f : M (List D)) : TE := fun σ H Q => ∃ G en ds en', Rel K G H σ en ∧ f en = some (ds, en') ∧
  ∀ p vs G' H', Stp K σ G H en σ G' H' en' → H p = none → H' p = some (.lst vs) → G' p = none → ¬ Own σ en' p → DPs K G' vs ds → Q (.ref p) H'
theorem free_of_live {σ σ' : L2.St} {G G' H H' : Hp} {en en' : En} (s : Stp K σ G H en σ' G' H' en') {p : Addr} (h : H' p = none) : H p = none := by
  cases e : H p with
  | none => rfl
  | some o => exact absurd h (s.live p (by rw [e]; exact Option.some_ne_none _))
/-- laid at the end -/
theorem new_at {σ : L2.St} {G G1 H H1 : Hp} {en en1 : En} {Q : VK} {ds : List D} {vs : List V} {p : Addr} (s1 : Stp K σ G H en σ G1 H1 en1) (hp : H1 p = none) (hd : DPs K G1 vs ds)
    (k : ∀ p vs G' H', Stp K σ G H en σ G' H' en1 → H p = none → H' p = some (.lst vs) → G' p = none → ¬ Own σ en1 p → DPs K G' vs ds → Q (.ref p) H') : Q (.ref p) (upd H1 p (.lst vs)) := by
  have ps : Pst G1 H1 G1 (upd H1 p (.lst vs)) := Pst.lay s1.rel.gh hp
  exact k p vs G1 _ (s1.trans (ps.stp s1.rel)) (free_of_live s1 hp) upd_same (s1.rel.gh.free hp) (fun z => (s1.rel.own z).1 hp) hd
/-- frozen at once -/
theorem Stp.freezeNew {σ : L2.St} {G G1 H H1 : Hp} {en en1 : En} {p : Addr} {o : HO} (s1 : Stp K σ G H en σ G1 H1 en1) (h0 : H p = none) (h1 : H1 p = some o) (g1 : G1 p = none) (no : ¬ Own σ en1 p) : Stp K σ G H en σ (upd G1 p o) H1 en1 where
  rel := ⟨s1.rel.gh.freeze h1, s1.rel.len, fun i sv e => by
    obtain ⟨v, f, q⟩ := s1.rel.slot i sv e
    refine ⟨v, f, q.carry (Ex.new g1) fun a u w ev ha ga => ⟨ha, ?_⟩⟩
    rw [upd_ne]
    · exact ga
    · rintro rfl
      subst ev
      exact no ⟨i, sv, e, w, f⟩, s1.rel.sep⟩
  ex := s1.ex.trans (Ex.new g1)
  frame := s1.frame
  live := s1.live
  fresh := fun b q => by
    by_cases e : b = p
    · subst e; exact .inr (.inl h0)
    · rw [upd_ne e] at q; exact s1.fresh b q
  sub := s1.sub
  prot := s1.prot
def fFresh (f : M (List D)) : M SV := fun en => (f en).bind fun p => some (.dat (.list p.1), p.2)
theorem s_fresh {f : M (List D)} (ha : PE X a (tN X.K f)) : PE X a (tE X.K (fFresh f)) := pe_weak ha fun σ H Q ⟨G, en, sv, en', R, hf, k⟩ => by
  obtain ⟨⟨ds, en1⟩, h1, hf⟩ := Option.bind_eq_some_iff.mp hf
  cases hf
  exact ⟨G, en, ds, _, R, h1, fun p vs G' H' s1 h0 hp gp no hd => k _ _ _ (s1.freezeNew h0 hp gp no) (.lst upd_same (dps_ex (Ex.new gp) _ _ hd))⟩
def fDisp (fr : M (List SV)) : M (List D) := fun en => (fr en).bind fun p => (datsS p.1).bind fun ds => if ds.length ≤ lim then some (ds, p.2) else none
theorem s_disp (ha : PA X es (tVs X.K fr)) : PE X (.List es pos) (tN X.K (fDisp fr)) := pe_weak (pe_lst ha) fun σ H Q ⟨G, en, sv, en', R, hf, k⟩ => by
  obtain ⟨⟨os, en1⟩, h1, hf⟩ := Option.bind_eq_some_iff.mp hf
  obtain ⟨ds, e1, hf⟩ := Option.bind_eq_some_iff.mp hf
  split at hf
  · rename_i hl
    cases hf
    refine ⟨G, en, os, _, R, h1, fun vs G1 H1 s1 q => ?_⟩
    have hd := datsS_ok q e1
    exact ⟨by rw [hd.length]; exact Nat.le_trans hl line_lim, fun p hp => new_at s1 hp hd k⟩
  · cases hf
def lstV : D → Option (List D)
  | .list ds => some ds
  | _ => none
theorem lstV_ok {ds : List D} : ∀ {d : D}, lstV d = some ds → d = .list ds
  | .list _, h => by cases h; rfl
  | .none, h => by cases h
  | .bool _, h => by cases h
  | .str _, h => by cases h
  | .int _, h => by cases h
  | .tuple _, h => by cases h
  | .dict _, h => by cases h
def seqV : D → Option (List D)
  | .list ds => some ds
  | .tuple ds => some ds
  | _ => none
theorem seqV_ok {ds : List D} : ∀ {d : D}, seqV d = some ds → d = .list ds ∨ d = .tuple ds
  | .list _, h => by cases h; exact .inl rfl
  | .tuple _, h => by cases h; exact .inr rfl
  | .none, h => by cases h
  | .bool _, h => by cases h
  | .str _, h => by cases h
  | .int _, h => by cases h
  | .dict _, h => by cases h
/-- list + list, kept by its slot -/
def fCatL (fa fb : M Op) : M (List D) := fun en => (fa en).bind fun p => (fb p.2).bind fun q => (rs p.1 q.2).bind fun d1 => (rs q.1 q.2).bind fun d2 => (lstV d1).bind fun x => (lstV d2).bind fun y =>
  if x.length + y.length ≤ lim then some (x ++ y, q.2) else none
theorem s_catL (ha : PE X a (tO X.K fa)) (hb : PE X b (tO X.K fb)) : PE X (.BinOp a .Add b pos) (tN X.K (fCatL fa fb)) := pe_weak (pe_op op_cat ha hb) fun σ H Q ⟨G, en, sv, en', R, hf, k⟩ => by
  obtain ⟨⟨o1, en1⟩, h1, hf⟩ := Option.bind_eq_some_iff.mp hf
  obtain ⟨⟨o2, en2⟩, h2, hf⟩ := Option.bind_eq_some_iff.mp hf
  obtain ⟨d1, e1, hf⟩ := Option.bind_eq_some_iff.mp hf
  obtain ⟨d2, e2, hf⟩ := Option.bind_eq_some_iff.mp hf
  obtain ⟨x, e3, hf⟩ := Option.bind_eq_some_iff.mp hf
  obtain ⟨y, e4, hf⟩ := Option.bind_eq_some_iff.mp hf
  split at hf
  · rename_i hl
    cases hf
    refine ⟨G, en, o1, en1, R, h1, fun v1 G1 H1 s1 q1 => ⟨G1, en1, o2, _, s1.rel, h2, fun v2 G2 H2 s2 q2 => ?_⟩⟩
    obtain ⟨w1, w2⟩ := two s1 s2 q1 q2 e1 e2
    have z1 := lstV_ok e3
    have z2 := lstV_ok e4
    subst z1 z2
    obtain ⟨l, vs, rfl, hl1, hd1⟩ := w1.lst s2.rel.gh
    obtain ⟨m, ws, rfl, hm1, hd2⟩ := w2.lst s2.rel.gh
    exact ⟨l, m, vs, ws, rfl, rfl, hl1, hm1, by rw [hd1.length, hd2.length]; exact Nat.le_trans hl line_lim, fun p hp => new_at (s1.trans s2) hp (hd1.append hd2) k⟩
  · cases hf
def fRepL (fa fb : M Op) : M (List D) := fun en => (fa en).bind fun p => (fb p.2).bind fun q => (rs p.1 q.2).bind fun d1 => (rs q.1 q.2).bind fun d2 => (lstV d1).bind fun x => (intV d2).bind fun i =>
  if 0 ≤ i ∧ i ≤ 1000 ∧ x.length ≤ 90 then some ((List.replicate i.toNat x).flatten, q.2) else none
theorem s_repL (ha : PE X a (tO X.K fa)) (hb : PE X b (tO X.K fb)) : PE X (.BinOp a .Mult b pos) (tN X.K (fRepL fa fb)) := pe_weak (pe_op op_rep ha hb) fun σ H Q ⟨G, en, sv, en', R, hf, k⟩ => by
  obtain ⟨⟨o1, en1⟩, h1, hf⟩ := Option.bind_eq_some_iff.mp hf
  obtain ⟨⟨o2, en2⟩, h2, hf⟩ := Option.bind_eq_some_iff.mp hf
  obtain ⟨d1, e1, hf⟩ := Option.bind_eq_some_iff.mp hf
  obtain ⟨d2, e2, hf⟩ := Option.bind_eq_some_iff.mp hf
  obtain ⟨x, e3, hf⟩ := Option.bind_eq_some_iff.mp hf
  obtain ⟨i, e4, hf⟩ := Option.bind_eq_some_iff.mp hf
  split at hf
  · rename_i hl
    cases hf
    refine ⟨G, en, o1, en1, R, h1, fun v1 G1 H1 s1 q1 => ⟨G1, en1, o2, _, s1.rel, h2, fun v2 G2 H2 s2 q2 => ?_⟩⟩
    obtain ⟨w1, w2⟩ := two s1 s2 q1 q2 e1 e2
    have z1 := lstV_ok e3
    have z2 := intV_ok e4
    subst z1 z2
    obtain ⟨l, vs, rfl, hl1, hd1⟩ := w1.lst s2.rel.gh
    refine ⟨l, i, vs, rfl, w2.int, hl1, by omega, by omega, ?_, fun p hp => new_at (s1.trans s2) hp (hd1.rep _) k⟩
    rw [hd1.length]
    have hk : i.toNat ≤ 1000 := by omega
    exact Nat.le_trans (Nat.mul_le_mul hl.2.2 hk) (Nat.le_trans (by decide) line_lim)
  · cases hf
/-- list(x) -/
def fListOf (fa : M Op) : M (List D) := fun en => (fa en).bind fun p => (rs p.1 p.2).bind fun d1 => (seqV d1).bind fun x => some (x, p.2)
theorem s_listOf {x : Str} {p : Pos} (hx : x = "list") (hg : Gl X x) (hm : X.mg x = none) (ha : PE X a (tO X.K fa)) (hs : starEach [a] X.env = (false, eval a X.env) :: starEach [] X.env) : PE X (.Call (.Name x p) [a] [] pos) (tN X.K (fListOf fa)) := by
  subst hx
  refine pe_weak (pe_callTy call_list_of hg hm (by decide +kernel) (pa_cons ha pa_nil hs) (by decide) (by decide) hs) fun σ H Q ⟨G, en, sv, en', R, hf, k⟩ => ?_
  obtain ⟨⟨o1, en1⟩, h1, hf⟩ := Option.bind_eq_some_iff.mp hf
  obtain ⟨d1, e1, hf⟩ := Option.bind_eq_some_iff.mp hf
  obtain ⟨ds, e3, hf⟩ := Option.bind_eq_some_iff.mp hf
  cases hf
  refine ⟨G, en, o1, _, R, h1, fun v1 G1 H1 s1 q1 => ?_⟩
  have w1 := rs_ok s1.rel q1 e1
  rcases seqV_ok e3 with z | z
  · subst z
    obtain ⟨l, vs, rfl, hl1, hd1⟩ := w1.lst s1.rel.gh
    exact ⟨l, vs, rfl, .inl (SqL.of hl1), fun p hp => new_at s1 hp hd1 k⟩
  · subst z
    obtain ⟨l, vs, rfl, hl1, hd1, _⟩ := w1.tup
    exact ⟨l, vs, rfl, .inr (seqT_gh s1.rel.gh hl1), fun p hp => new_at s1 hp hd1 k⟩
/-- tuple(x) -/
def fTupOf (fa : M Op) : M SV := fun en => (fa en).bind fun p => (rs p.1 p.2).bind fun d1 => (seqV d1).bind fun x => some (.dat (.tuple x), p.2)
theorem s_tupOf {x : Str} {p : Pos} (hx : x = "tuple") (hg : Gl X x) (hm : X.mg x = none) (ha : PE X a (tO X.K fa)) (hs : starEach [a] X.env = (false, eval a X.env) :: starEach [] X.env) : PE X (.Call (.Name x p) [a] [] pos) (tE X.K (fTupOf fa)) := by
  subst hx
  refine pe_weak (pe_callTy callX_tuple hg hm (by decide +kernel) (pa_cons ha pa_nil hs) (by decide) (by decide) hs) fun σ H Q ⟨G, en, sv, en', R, hf, k⟩ => ?_
  obtain ⟨⟨o1, en1⟩, h1, hf⟩ := Option.bind_eq_some_iff.mp hf
  obtain ⟨d1, e1, hf⟩ := Option.bind_eq_some_iff.mp hf
  obtain ⟨ds, e3, hf⟩ := Option.bind_eq_some_iff.mp hf
  cases hf
  refine ⟨G, en, o1, _, R, h1, fun v1 G1 H1 s1 q1 => ?_⟩
  have w1 := rs_ok s1.rel q1 e1
  rcases seqV_ok e3 with z | z
  · subst z
    obtain ⟨l, vs, rfl, hl1, hd1⟩ := w1.lst s1.rel.gh
    refine ⟨l, vs, rfl, .inl ⟨SqL.of hl1, fun p its hp => ?_⟩⟩
    have ps : Pst G1 H1 (upd G1 p (.frz (tupO its) (.tup vs))) (upd H1 p (.frz (tupO its) (.tup vs))) := Pst.new s1.rel.gh hp
    exact k _ _ _ (s1.trans (ps.stp s1.rel)) (.tup (.inl ⟨its, upd_same⟩) (dps_ex ps.ex _ _ hd1))
  · subst z
    obtain ⟨l, vs, rfl, hl1, hd1, hx⟩ := w1.tup
    exact ⟨l, vs, rfl, .inr ⟨seqT_gh s1.rel.gh hl1, k _ _ _ s1 hx⟩⟩
/-- isinstance(x, T) -/
def fIsi (t : Ty) (fa : M Op) : M SV := fun en => (fa en).bind fun p => (rs p.1 p.2).bind fun d1 => (isiD t d1).bind fun c => some (.dat (.bool c), p.2)
theorem s_isi (t : Ty) {x y : Str} {p p2 : Pos} (hx : x = "isinstance") (hg : Gl X x) (hm : X.mg x = none) (hy : y = Str.ofString t.name) (hg2 : Gl X y) (hm2 : X.mg y = none) (ha : PE X a (tO X.K fa))
    (hs : starEach [a, .Name y p2] X.env = (false, eval a X.env) :: starEach [.Name y p2] X.env) : PE X (.Call (.Name x p) [a, .Name y p2] [] pos) (tE X.K (fIsi t fa)) := by
  have ht : PE X (.Name y p2) (tC (.ty t.name)) := pe_bltn hg2 hm2 (by subst hy; cases t <;> decide +kernel) rfl (by subst hy; cases t <;> decide) (by subst hy; cases t <;> decide)
  subst hx
  refine pe_weak (pe_callB (isi_ok t) hg hm (by decide +kernel) (pa_cons ha (pa_cons ht pa_nil rfl) hs) (by decide) (by decide) hs) fun σ H Q ⟨G, en, sv, en', R, hf, k⟩ => ?_
  obtain ⟨⟨o1, en1⟩, h1, hf⟩ := Option.bind_eq_some_iff.mp hf
  obtain ⟨d1, e1, hf⟩ := Option.bind_eq_some_iff.mp hf
  obtain ⟨c, e3, hf⟩ := Option.bind_eq_some_iff.mp hf
  cases hf
  exact ⟨G, en, o1, _, R, h1, fun v1 G1 H1 s1 q1 => ⟨G1, v1, d1, c, rfl, s1.rel.gh, rs_ok s1.rel q1 e1, e3, k _ _ _ s1 (.bl c)⟩⟩
end

/-! #### calls of the text's defs -/
abbrev Fnc := List SV → Option (D × List SV)
/-- a def's promise: told by its function -/
def spD (K : PySem.W.Frag) (c : Fnc) (n : Nat) : Sp := fun vs H Q _ => vs.length = n ∧ ∃ G svs d svs', Rel K G H (vs.map some) (svs.map some) ∧ c svs = some (d, svs') ∧
  ∀ v G' H', Stp K (vs.map some) G H (svs.map some) (vs.map some) G' H' (svs'.map some) → DP K G' v d → Q v H'
section
variable {X : Cx} {K : PySem.W.Frag} {a b : Expr} {es : List Expr} {h : M SV} {fr : M (List SV)} {pos : Pos}
theorem vals_rel {G H : Hp} : ∀ {vs : List V} {svs : List SV}, GH G H → Paired (VR K G) vs svs → Rel K G H (vs.map some) (svs.map some) := fun {vs svs} g p => by
  have get : ∀ {vs : List V} {svs : List SV} (i : Nat) (sv : SV), Paired (VR K G) vs svs → svs[i]? = some sv → ∃ v, vs[i]? = some v ∧ VR K G v sv := by
    intro vs svs i sv p
    induction p generalizing i with
    | nil => intro e; simp at e
    | cons r t ih =>
      intro e
      cases i with
      | zero => simp at e; subst e; exact ⟨_, rfl, r⟩
      | succ i =>
        obtain ⟨v, h1, h2⟩ := ih i (by simpa using e)
        exact ⟨v, by simpa using h1, h2⟩
  have own : ∀ (i : Nat) (sv : SV), (svs.map some)[i]? = some (some sv) → ∃ v, (vs.map some)[i]? = some (some v) ∧ VR K G v sv := fun i sv e => by
    rw [List.getElem?_map] at e
    obtain ⟨s, h1, h2⟩ := Option.map_eq_some_iff.mp e
    cases h2
    obtain ⟨v, h3, h4⟩ := get i sv p h1
    exact ⟨v, by rw [List.getElem?_map, h3]; rfl, h4⟩
  refine ⟨g, ?_, fun i sv e => ?_, fun i j sv sv' v e1 _ w1 _ _ _ => ?_⟩
  · rw [List.length_map, List.length_map]; exact (Paired.length p).symm
  · obtain ⟨v, h1, h2⟩ := own i sv e
    exact ⟨v, h1, h2.sr⟩
  · obtain ⟨v, _, h2⟩ := own i sv e1
    rw [h2.not_own] at w1; cases w1
theorem own_none {G : Hp} {vs : List V} {svs : List SV} {b : Addr} (p : Paired (VR K G) vs svs) : ¬ Own (vs.map some) (svs.map some) b := fun ⟨i, sv, e, w, _⟩ => by
  have all : ∀ {vs : List V} {svs : List SV}, Paired (VR K G) vs svs → ∀ s ∈ svs, ownB s = false := by
    intro vs svs p
    induction p with
    | nil => intro s h; cases h
    | cons r t ih =>
      intro s h
      rcases List.mem_cons.mp h with rfl | h
      · exact r.not_own
      · exact ih s h
  rw [List.getElem?_map] at e
  obtain ⟨s, h1, h2⟩ := Option.map_eq_some_iff.mp e
  cases h2
  rw [all p sv (List.mem_of_getElem? h1)] at w
  cases w
def fCall (n : Nat) (c : Fnc) (fr : M (List SV)) : M SV := fun en => (fr en).bind fun p => if p.1.length = n then (c p.1).bind fun r => some (.dat r.1, p.2) else none
theorem s_call {c : Fnc} {n k : Nat} {f : Addr} {fd : FuncData} {ps : List Str} {x : Str} {p : Pos} (F : FnOk X.prog X.w X.K X.mg X.base CX0 k f fd ps (spD X.K c n)) (hr : Room k X.A) (hg : Gl X x) (hm : X.mg x = some (.ref f)) (hk : PySem.W.keepIn X.K (.ref f) = true) (hb : Binds X.K fd ps [])
    (ha : PA X (a :: es) (tVs X.K fr)) (hdb : (x == ("__debug__" : Str)) = false) (he : starEach (a :: es) X.env = (false, eval a X.env) :: starEach es X.env) (hpl : (backTo pos (starEach es X.env)).any (·.1) = false) :
    PE X (.Call (.Name x p) (a :: es) [] pos) (tE X.K (fCall n c fr)) := pe_weak (pe_call F hr hg hm hk hb .nil pass0 ha hdb he hpl) fun σ H Q ⟨G, en, sv, en', R, hf, k⟩ => by
  obtain ⟨⟨os, en1⟩, h1, hf⟩ := Option.bind_eq_some_iff.mp hf
  split at hf
  · rename_i hn
    obtain ⟨⟨d, svs'⟩, h2, hf⟩ := Option.bind_eq_some_iff.mp hf
    cases hf
    refine ⟨G, en, os, _, R, h1, fun vs G1 H1 s1 q => ?_⟩
    refine ⟨by rw [List.append_nil, Paired.length q]; exact hn, G1, os, d, svs', by rw [List.append_nil]; exact vals_rel s1.rel.gh q, h2, fun v G' H' st r => ?_⟩
    rw [List.append_nil] at st
    have no : ∀ b, ¬ Own (vs.map some) (os.map some) b := fun b => own_none q
    have ps : Pst G1 H1 G' H' := ⟨st.rel.gh, st.ex, fun b o hb => st.frame b o hb (no b), fun b hb => (st.fresh b hb).imp id fun z => z.elim id fun w => absurd w (no b)⟩
    exact k v G' H' (s1.trans (ps.stp s1.rel)) r
  · cases hf
/-- a call whose first argument is a slot's own dict, to be changed -/
def odS : Option (Option SV) → Option (Bool × List (Key × D))
  | some (some (.odic p kvs)) => some (p, kvs)
  | _ => none
theorem odS_ok {q : Bool × List (Key × D)} : ∀ {o : Option (Option SV)}, odS o = some q → o = some (some (.odic q.1 q.2))
  | some (some (.odic _ _)), h => by cases h; rfl
  | some (some (.dat _)), h => by cases h
  | some (some (.olst _)), h => by cases h
  | some (some (.fdic _)), h => by cases h
  | some (some (.kdic _)), h => by cases h
  | some (some (.rlst _)), h => by cases h
  | some none, h => by cases h
  | none, h => by cases h
def odH : List SV → Option (List (Key × D))
  | .odic _ kvs :: _ => some kvs
  | _ => none
def fCallW (n : Nat) (c : Fnc) (i : Nat) (fr : M (List SV)) : M SV := fun en => if isSet en[i]? = true then (fr en).bind fun p => if p.1.length + 1 = n then
  (odS p.2[i]?).bind fun q => (c (.odic true q.2 :: p.1)).bind fun r => (odH r.2).bind fun kvs' => some (.dat r.1, p.2.set i (some (.odic q.1 kvs'))) else none else none
theorem w_rel {G H : Hp} {σ : L2.St} {en : En} {i : Nat} {p : Bool} {kvs : List (Key × D)} {v0 : V} {ws : List V} {os : List SV} (R : Rel K G H σ en) (he : en[i]? = some (some (.odic p kvs))) (hv : σ[i]? = some (some v0)) (q : Paired (VR K G) ws os) :
    Rel K G H ((v0 :: ws).map some) ((SV.odic true kvs :: os).map some) := by
  have B := vals_rel R.gh q
  refine ⟨R.gh, congrArg Nat.succ B.len, fun j sv e => ?_, fun j l sv sv' v e1 e2 w1 w2 _ _ => ?_⟩
  · cases j with
    | zero =>
      cases e
      obtain ⟨v, hv', hs⟩ := R.slot i _ he
      rw [hv] at hv'
      cases hv'
      exact ⟨v0, rfl, hs⟩
    | succ j => exact B.slot j sv e
  · have own1 : ∀ (j : Nat) (sv : SV), ((SV.odic true kvs :: os).map some)[j]? = some (some sv) → ownB sv = true → j = 0 := fun j sv e w => by
      cases j with
      | zero => rfl
      | succ j =>
        have e' : (os.map some)[j]? = some (some sv) := e
        obtain ⟨v, hv', hs⟩ := B.slot j sv e'
        obtain ⟨a, rfl, ha, ga⟩ := hs.own_at w
        exact absurd (show Own (ws.map some) (os.map some) a from ⟨j, sv, e', w, hv'⟩) (own_none q)
    rw [own1 j sv e1 w1, own1 l sv' e2 w2]
theorem s_callW {c : Fnc} {n k i : Nat} {f : Addr} {fd : FuncData} {ps : List Str} {x : Str} {p : Pos} (F : FnOk X.prog X.w X.K X.mg X.base CX0 k f fd ps (spD X.K c n)) (hr : Room k X.A) (hg : Gl X x) (hm : X.mg x = some (.ref f)) (hk : PySem.W.keepIn X.K (.ref f) = true) (hb : Binds X.K fd ps [])
    (h0 : PE X a (tVar i)) (ha : PA X es (tVs X.K fr)) (hdb : (x == ("__debug__" : Str)) = false) (he : starEach (a :: es) X.env = (false, eval a X.env) :: starEach es X.env) (hpl : (backTo pos (starEach es X.env)).any (·.1) = false) :
    PE X (.Call (.Name x p) (a :: es) [] pos) (tE X.K (fCallW n c i fr)) := pe_weak (pe_call F hr hg hm hk hb .nil pass0 (pa_cons h0 ha he) hdb he hpl) fun σ H Q ⟨G, en, sv, en', R, hf, k⟩ => by
  unfold fCallW at hf
  split at hf
  rotate_left
  · cases hf
  rename_i hset
  obtain ⟨sv0, hsv0⟩ := isSet_ok hset
  obtain ⟨v0, hv0, _⟩ := R.slot i sv0 hsv0
  obtain ⟨⟨os, en1⟩, h1, hf⟩ := Option.bind_eq_some_iff.mp hf
  split at hf
  rotate_left
  · cases hf
  rename_i hn
  obtain ⟨⟨pf, kvs⟩, h4, hf⟩ := Option.bind_eq_some_iff.mp hf
  obtain ⟨⟨d, svs'⟩, h2, hf⟩ := Option.bind_eq_some_iff.mp hf
  obtain ⟨kvs', h3, hf⟩ := Option.bind_eq_some_iff.mp hf
  cases hf
  have e4 := odS_ok h4
  refine ⟨v0, hv0, G, en, os, en1, R, h1, fun ws G1 H1 s1 q => ?_⟩
  have RA := w_rel s1.rel e4 hv0 q
  refine ⟨?_, G1, _, d, svs', by rw [List.append_nil]; exact RA, h2, fun v G' H' st r => ?_⟩
  · rw [List.append_nil, List.length_cons, Paired.length q]; exact hn
  rw [List.append_nil] at st
  obtain ⟨w0, hw0, hs0⟩ := s1.rel.slot i _ e4
  rw [hv0] at hw0
  cases hw0
  obtain ⟨l, ks, rfl, hl, gl, hk⟩ := hs0
  -- what the call owned is the slot's dict
  have own_iff : ∀ b, Own ((V.ref l :: ws).map some) ((SV.odic true kvs :: os).map some) b → b = l := fun b ⟨j, sv, e, w, f⟩ => by
    cases j with
    | zero => cases f; rfl
    | succ j => exact absurd (show Own (ws.map some) (os.map some) b from ⟨j, sv, e, w, f⟩) (own_none q)
  have own_l : Own σ en1 l := ⟨i, _, e4, rfl, hv0⟩
  have keepOwn : ∀ b, Own σ en1 b → G' b = none := fun b hb => by
    have hb2 := s1.rel.own hb
    cases e : G' b with
    | none => rfl
    | some u =>
      rcases st.fresh b (by rw [e]; exact Option.some_ne_none _) with z | z | z
      · exact absurd hb2.2 z
      · exact absurd z hb2.1
      · obtain rfl := own_iff b z
        obtain ⟨_, kvs2, e2⟩ := st.prot 0 kvs rfl
        obtain ⟨w0, hw0, hs0⟩ := st.rel.slot 0 _ e2
        cases hw0
        obtain ⟨l2, ks2, e3, _, g2, _⟩ := hs0
        cases e3
        rw [g2] at e; cases e
  obtain ⟨_, kvs2, e2⟩ := st.prot 0 kvs rfl
  obtain ⟨w1, hw1, hs1⟩ := st.rel.slot 0 _ e2
  cases hw1
  have ek : kvs2 = kvs' := by
    cases svs' with
    | nil => cases h3
    | cons s0 r0 =>
      cases e2
      cases h3
      rfl
  subst ek
  have st2 : Stp X.K σ G1 H1 en1 σ G' H' (en1.set i (some (.odic pf kvs2))) := by
    refine ⟨⟨st.rel.gh, by rw [List.length_set]; exact s1.rel.len, fun j sv e => ?_, fun j m sv sv' v e1 e2 w1 w2 f1 f2 => ?_⟩, st.ex, fun b o hb no => st.frame b o hb fun z => no (own_iff b z ▸ own_l), st.live, fun b hb => ?_, fun b ⟨j, sv, e, w, f⟩ => .inl ?_, fun j kv e => ⟨rfl, ?_⟩⟩
    · rcases set_get e with ⟨rfl, z⟩ | ⟨ne, e⟩
      · cases z
        exact ⟨_, hv0, hs1⟩
      · obtain ⟨v, hv, hs⟩ := s1.rel.slot j sv e
        refine ⟨v, hv, hs.carry st.ex fun b u w ev hb gb => ⟨st.frame b u hb fun z => ?_, keepOwn b ⟨j, sv, e, w, ev ▸ hv⟩⟩⟩
        obtain rfl := own_iff b z
        subst ev
        exact ne (s1.rel.sep j i sv _ _ e e4 w rfl hv hv0)
    · have back : ∀ (j : Nat) (sv : SV), (en1.set i (some (SV.odic pf kvs2)))[j]? = some (some sv) → ownB sv = true → ∃ sv0, en1[j]? = some (some sv0) ∧ ownB sv0 = true := fun j sv e w => by
        rcases set_get e with ⟨rfl, z⟩ | ⟨_, e⟩
        · exact ⟨_, e4, rfl⟩
        · exact ⟨sv, e, w⟩
      obtain ⟨a1, b1, c1⟩ := back j sv e1 w1
      obtain ⟨a2, b2, c2⟩ := back m sv' e2 w2
      exact s1.rel.sep j m a1 a2 v b1 b2 c1 c2 f1 f2
    · rcases st.fresh b hb with z | z | z
      · exact .inl z
      · exact .inr (.inl z)
      · exact .inr (.inr (own_iff b z ▸ own_l))
    · rcases set_get e with ⟨rfl, z⟩ | ⟨_, e⟩
      · exact ⟨_, _, e4, rfl, f⟩
      · exact ⟨j, sv, e, w, f⟩
    · by_cases z : i = j
      · subst z
        rw [e4] at e
        cases e
        exact ⟨kvs2, by rw [List.getElem?_set_self (List.getElem?_eq_some_iff.mp e4).1]⟩
      · exact ⟨kv, by rw [List.getElem?_set_ne z]; exact e⟩
  exact k v G' H' (s1.trans st2) r
end
end Pf

namespace Pf
open PySem L2

/-! #### targets -/
def setS (i : Nat) (sv : SV) (en : En) : Option En :=
  match en[i]? with
  | none => none
  | some (some (.odic true _)) => none
  | some _ => some (en.set i (some sv))
theorem setS_ok {i : Nat} {sv : SV} {en en' : En} (h : setS i sv en = some en') : i < en.length ∧ en' = en.set i (some sv) ∧ ∀ kvs, en[i]? ≠ some (some (.odic true kvs)) := by
  unfold setS at h
  split at h
  · cases h
  · cases h
  · rename_i o hn e
    cases h
    refine ⟨(List.getElem?_eq_some_iff.mp e).1, rfl, fun kvs z => ?_⟩
    rw [e] at z
    cases z
    exact hn kvs rfl
/-- a slot gets a value -/
theorem Stp.assign {K : PySem.W.Frag} {G H : Hp} {σ : L2.St} {en en' : En} {i : Nat} {v : V} {sv : SV} (R : Rel K G H σ en) (hv : VR K G v sv) (h : setS i sv en = some en') : Stp K σ G H en (σ.set i (some v)) G H en' := by
  obtain ⟨hl, rfl, hp⟩ := setS_ok h
  have hn := hv.not_own
  refine ⟨⟨R.gh, by rw [List.length_set, List.length_set]; exact R.len, fun j s e => ?_, fun j l s s' w e1 e2 w1 w2 f1 f2 => ?_⟩, Ex.refl G, fun _ _ h _ => h, fun _ h => h, fun _ h => .inl h, fun b ⟨j, s, e, w, f⟩ => .inl ?_, fun j kvs e => ?_⟩
  · rcases set_get e with ⟨rfl, q⟩ | ⟨ne, e⟩
    · cases q
      exact ⟨v, List.getElem?_set_self (by rw [← R.len]; exact hl), hv.sr⟩
    · obtain ⟨w, hw, hs⟩ := R.slot j s e
      exact ⟨w, by rw [List.getElem?_set_ne (fun z => ne z.symm)]; exact hw, hs⟩
  · rcases set_get e1 with ⟨rfl, q⟩ | ⟨n1, e1⟩
    · cases q; rw [hn] at w1; cases w1
    · rcases set_get e2 with ⟨rfl, q⟩ | ⟨n2, e2⟩
      · cases q; rw [hn] at w2; cases w2
      · rw [List.getElem?_set_ne (fun z => n1 z.symm)] at f1
        rw [List.getElem?_set_ne (fun z => n2 z.symm)] at f2
        exact R.sep j l s s' w e1 e2 w1 w2 f1 f2
  · rcases set_get e with ⟨rfl, q⟩ | ⟨n1, e⟩
    · cases q; rw [hn] at w; cases w
    · rw [List.getElem?_set_ne (fun z => n1 z.symm)] at f
      exact ⟨j, s, e, w, f⟩
  · have ne : i ≠ j := by
      rintro rfl
      exact hp kvs e
    exact ⟨List.getElem?_set_ne ne, kvs, by rw [List.getElem?_set_ne ne]; exact e⟩
/-- what is walked gives; w: a pair of zip, of which only the items are known -/
def DR (w : Bool) (K : PySem.W.Frag) (G : Hp) (v : V) (d : D) : Prop := DP K G v d ∨ w = true ∧ ∃ a xs ds, v = .ref a ∧ d = .tuple ds ∧ SqT K G a xs ∧ DPs K G xs ds
theorem DR.strong {K : PySem.W.Frag} {G : Hp} {v : V} {d : D} (h : DR false K G v d) : DP K G v d := h.elim id fun z => by cases z.1
def tG (K : PySem.W.Frag) (w : Bool) (is : List Nat) (f : D → En → Option En) : TG := fun v σ H Q => ∃ G en d en', Rel K G H σ en ∧ DR w K G v d ∧ f d en = some en' ∧
  ∀ σ' G' H', Stp K σ G H en σ' G' H' en' → σ'.length = σ.length → (∀ i, i ∉ is → σ'[i]? = σ[i]?) → Q σ' H'
def tGs (K : PySem.W.Frag) (is : List Nat) (f : List D → En → Option En) : TGs := fun vs σ H Q => ∃ G en ds en', Rel K G H σ en ∧ DPs K G vs ds ∧ f ds en = some en' ∧
  ∀ σ' G' H', Stp K σ G H en σ' G' H' en' → σ'.length = σ.length → (∀ i, i ∉ is → σ'[i]? = σ[i]?) → Q σ' H'
theorem pg_weak {X : Cx} {e : Expr} {t t' : TG} (h : PG X e t) (w : ∀ v σ H Q, t' v σ H Q → t v σ H Q) : PG X e t' := ⟨fun pins s σ H v u Q I r q => h.run pins s σ H v u Q I r (w v σ H Q q)⟩
theorem pgs_weak {X : Cx} {es : List Expr} {t t' : TGs} (h : PGs X es t) (w : ∀ v σ H Q, t' v σ H Q → t v σ H Q) : PGs X es t' := ⟨fun pins s σ H v u Q I r q => h.run pins s σ H v u Q I r (w v σ H Q q)⟩
def gN (i : Nat) : D → En → Option En := fun d en => setS i (.dat d) en
def gT (f : List D → En → Option En) : D → En → Option En := fun d en => match d with
  | .tuple ds => f ds en
  | _ => none
def gs0 : List D → En → Option En := fun ds en => match ds with
  | [] => some en
  | _ => none
def gsC (f : D → En → Option En) (fr : List D → En → Option En) : List D → En → Option En := fun ds en => match ds with
  | d :: r => (f d en).bind fun en1 => fr r en1
  | [] => none
section
variable {X : Cx} {K : PySem.W.Frag} {e : Expr} {es : List Expr} {pos : Pos} {is js : List Nat} {f : D → En → Option En} {fr : List D → En → Option En}
theorem s_gN {i : Nat} (h : PG X e (gName i)) : PG X e (tG X.K false [i] (gN i)) := pg_weak h fun v σ H Q ⟨G, en, d, en', R, hd, hf, k⟩ => by
  exact k _ G H (Stp.assign R (show VR X.K G v (.dat d) from hd.strong) hf) List.length_set fun j hj => List.getElem?_set_ne fun z => hj (by rw [z]; exact List.mem_cons_self)
theorem s_gs0 : PGs X [] (tGs X.K [] gs0) := pgs_weak pgs_nil fun v σ H Q ⟨G, en, ds, en', R, hd, hf, k⟩ => by
  cases hd with
  | nil => cases hf; exact ⟨rfl, k σ G H (Stp.refl R) rfl fun _ _ => rfl⟩
  | cons _ _ => cases hf
theorem s_gsC (h1 : PG X e (tG X.K false is f)) (h2 : PGs X es (tGs X.K js fr)) (hs : (assignEach (e :: es) X.env).map (·.2) = assign e X.env :: (assignEach es X.env).map (·.2)) : PGs X (e :: es) (tGs X.K (is ++ js) (gsC f fr)) :=
  pgs_weak (pgs_cons h1 h2 hs) fun vs σ H Q ⟨G, en, ds, en', R, hd, hf, k⟩ => by
    cases hd with
    | nil => cases hf
    | cons r t =>
      obtain ⟨en1, h3, h4⟩ := Option.bind_eq_some_iff.mp hf
      refine ⟨_, _, rfl, G, en, _, en1, R, .inl r, h3, fun σ1 G1 H1 s1 l1 u1 => ⟨G1, en1, _, en', s1.rel, dps_ex s1.ex _ _ t, h4, fun σ2 G2 H2 s2 l2 u2 => ?_⟩⟩
      exact k σ2 G2 H2 (s1.trans s2) (l2.trans l1) fun i hi => (u2 i fun z => hi (List.mem_append_right _ z)).trans (u1 i fun z => hi (List.mem_append_left _ z))
def lenIs (n : Nat) (f : List D → En → Option En) : List D → En → Option En := fun ds en => if ds.length = n then f ds en else none
theorem s_gT {w : Bool} {k : Nat} {n : Nat} (hc : X.calm = true) (h : PGs X es (tGs X.K is fr)) (hn : (assignEach es X.env).length = n) (hst : (assignEach es X.env).findIdx? (·.1) = none) : PG X (.Tuple es k pos) (tG X.K w is (gT (lenIs n fr))) :=
  pg_weak (pg_tup hc h hn hst) fun v σ H Q ⟨G, en, d, en', R, hd, hf, k⟩ => by
    have go : ∀ a xs ds, v = .ref a → d = .tuple ds → SqT X.K G a xs → DPs X.K G xs ds → gTup X.K n (tGs X.K is fr) v σ H Q := fun a xs ds e1 e2 h1 h2 => by
      subst e1 e2
      have hf : lenIs n fr _ en = some en' := hf
      unfold lenIs at hf
      split at hf
      · rename_i hl
        exact ⟨_, _, rfl, seqT_gh R.gh h1, by rw [h2.length]; exact hl, G, en, _, en', R, h2, hf, k⟩
      · cases hf
    rcases hd with hd | ⟨_, a, xs, ds, e1, e2, h1, h2⟩
    · cases hd with
      | tup h1 h2 => exact go _ _ _ rfl rfl h1.sq h2
      | _ => cases hf
    · exact go a xs ds e1 e2 h1 h2
end

/-! #### what is walked -/
def ItOk (K : PySem.W.Frag) (w : Bool) (J : It) (G : Hp) (ds : List D) : Prop := ∀ G2 H2, Ex G G2 → GH G2 H2 → ∀ i : Nat,
  (∀ d, ds[i]? = some d → J.go i H2 ∧ ∀ x H3, J.yld i H2 x H3 → ∃ G3, Pst G2 H2 G3 H3 ∧ DR w K G3 x d) ∧ (ds.length ≤ i → J.stop i H2)
def tI (K : PySem.W.Frag) (w : Bool) (f : M (List D)) : TI := fun σ H R => ∃ G en ds en', Rel K G H σ en ∧ f en = some (ds, en') ∧ ∀ J G' H', Stp K σ G H en σ G' H' en' → ItOk K w J G' ds → R J H'
theorem pi_weak {X : Cx} {tg e : Expr} {t t' : TI} (h : PI X tg e t) (w : ∀ σ H R, t' σ H R → t σ H R) : PI X tg e t' := ⟨fun pins s σ H R I q => h.run pins s σ H R I (w σ H R q)⟩
section
variable {X : Cx} {K : PySem.W.Frag} {G : Hp} {a b : Expr} {tg : Expr} {pos : Pos}
theorem it_list {l : Addr} {vs : List V} {ds : List D} (h : G l = some (.lst vs)) (hd : DPs K G vs ds) : ItOk K false (Itl K l) G ds := fun G2 H2 ex gh i => by
  have hl : SqL K H2 l vs := SqL.of (gh.lst (ex _ _ h))
  refine ⟨fun d e => ?_, fun n => ⟨vs, hl, by rw [hd.length]; exact n⟩⟩
  obtain ⟨v, hv, r⟩ := hd.get e
  refine ⟨⟨vs, v, hl, hv⟩, fun x H3 y => ?_⟩
  obtain ⟨rfl, y⟩ := y
  have := y vs hl
  rw [hv] at this
  cases this
  exact ⟨G2, Pst.refl gh, .inl (dp_ex ex _ _ r)⟩
theorem it_tup {l : Addr} {vs : List V} {ds : List D} (h : SqT K G l vs) (hd : DPs K G vs ds) : ItOk K false (Itt K l) G ds := fun G2 H2 ex gh i => by
  have hl : SqT K H2 l vs := seqT_gh gh (seqT_ex ex h)
  refine ⟨fun d e => ?_, fun n => ⟨vs, hl, by rw [hd.length]; exact n⟩⟩
  obtain ⟨v, hv, r⟩ := hd.get e
  refine ⟨⟨vs, v, hl, hv⟩, fun x H3 y => ?_⟩
  obtain ⟨rfl, y⟩ := y
  have := y vs hl
  rw [hv] at this
  cases this
  exact ⟨G2, Pst.refl gh, .inl (dp_ex ex _ _ r)⟩
def rngD (lo : Int) (n : Nat) : List D := (List.range n).map fun i : Nat => PyData.int (lo + (i : Int))
theorem rngD_get {lo : Int} {n i : Nat} {d : D} (h : (rngD lo n)[i]? = some d) : i < n ∧ d = .int (lo + i) := by
  unfold rngD at h
  rw [List.getElem?_map] at h
  obtain ⟨j, h1, rfl⟩ := Option.map_eq_some_iff.mp h
  obtain ⟨h2, h3⟩ := List.getElem?_eq_some_iff.mp h1
  rw [List.length_range] at h2
  rw [List.getElem_range] at h3
  subst h3
  exact ⟨h2, rfl⟩
theorem rngD_len {lo : Int} {n : Nat} : (rngD lo n).length = n := by unfold rngD; rw [List.length_map, List.length_range]
theorem it_rng {lo : Int} {n : Nat} : ItOk K false (Itr lo n) G (rngD lo n) := fun G2 H2 ex gh i => by
  refine ⟨fun d e => ?_, fun h => by rw [rngD_len] at h; exact h⟩
  obtain ⟨h1, rfl⟩ := rngD_get e
  exact ⟨h1, fun x H3 y => by
    obtain ⟨rfl, rfl⟩ := y
    exact ⟨G2, Pst.refl gh, .inl (.int _)⟩⟩
def zipD (xs ys : List D) : List D := (xs.zip ys).map fun p => PyData.tuple [p.1, p.2]
theorem zipD_get {xs ys : List D} {i : Nat} {d : D} (h : (zipD xs ys)[i]? = some d) : ∃ x y, xs[i]? = some x ∧ ys[i]? = some y ∧ d = .tuple [x, y] := by
  unfold zipD at h
  rw [List.getElem?_map] at h
  obtain ⟨⟨x, y⟩, h1, rfl⟩ := Option.map_eq_some_iff.mp h
  obtain ⟨h2, h3⟩ := List.getElem?_zip_eq_some.mp h1
  exact ⟨x, y, h2, h3, rfl⟩
theorem zipD_len {xs ys : List D} : (zipD xs ys).length = min xs.length ys.length := by unfold zipD; rw [List.length_map, List.length_zip]
theorem it_zipL {l m : Addr} {vs ws : List V} {xs ys : List D} (h : G l = some (.lst vs)) (h' : G m = some (.lst ws)) (hx : DPs K G vs xs) (hy : DPs K G ws ys) : ItOk K true (Itz K l m) G (zipD xs ys) := fun G2 H2 ex gh i => by
  have hl : SqL K H2 l vs := SqL.of (gh.lst (ex _ _ h))
  have hm : SqL K H2 m ws := SqL.of (gh.lst (ex _ _ h'))
  refine ⟨fun d e => ?_, fun n => ⟨vs, ws, hl, hm, ?_⟩⟩
  · obtain ⟨x, y, e1, e2, rfl⟩ := zipD_get e
    obtain ⟨v, hv, r⟩ := hx.get e1
    obtain ⟨w, hw, r'⟩ := hy.get e2
    refine ⟨⟨vs, ws, v, w, hl, hm, hv, hw⟩, fun z H3 q => ?_⟩
    obtain ⟨T, v', w', rfl, nT, rfl, f1, f2⟩ := q
    have i1 := (f1 vs hl).symm.trans hv
    have i2 := (f2 ws hm).symm.trans hw
    cases i1; cases i2
    have ps : Pst G2 H2 (upd G2 T (.tup [v, w])) (upd H2 T (.tup [v, w])) := Pst.new gh nT
    exact ⟨_, ps, .inr ⟨rfl, T, _, _, rfl, rfl, SqT.of upd_same, .cons (dp_ex (ex.trans ps.ex) _ _ r) (.cons (dp_ex (ex.trans ps.ex) _ _ r') .nil)⟩⟩
  · rw [zipD_len] at n
    rw [hx.length, hy.length]
    omega
theorem it_zipT {l m : Addr} {vs ws : List V} {xs ys : List D} (h : SqT K G l vs) (h' : SqT K G m ws) (hx : DPs K G vs xs) (hy : DPs K G ws ys) : ItOk K true (RZ.ItzT K l m) G (zipD xs ys) := fun G2 H2 ex gh i => by
  have hl : SqT K H2 l vs := seqT_gh gh (seqT_ex ex h)
  have hm : SqT K H2 m ws := seqT_gh gh (seqT_ex ex h')
  refine ⟨fun d e => ?_, fun n => ⟨vs, ws, hl, hm, ?_⟩⟩
  · obtain ⟨x, y, e1, e2, rfl⟩ := zipD_get e
    obtain ⟨v, hv, r⟩ := hx.get e1
    obtain ⟨w, hw, r'⟩ := hy.get e2
    refine ⟨⟨vs, ws, v, w, hl, hm, hv, hw⟩, fun z H3 q => ?_⟩
    obtain ⟨T, v', w', rfl, nT, rfl, f1, f2⟩ := q
    have i1 := (f1 vs hl).symm.trans hv
    have i2 := (f2 ws hm).symm.trans hw
    cases i1; cases i2
    have ps : Pst G2 H2 (upd G2 T (.tup [v, w])) (upd H2 T (.tup [v, w])) := Pst.new gh nT
    exact ⟨_, ps, .inr ⟨rfl, T, _, _, rfl, rfl, SqT.of upd_same, .cons (dp_ex (ex.trans ps.ex) _ _ r) (.cons (dp_ex (ex.trans ps.ex) _ _ r') .nil)⟩⟩
  · rw [zipD_len] at n
    rw [hx.length, hy.length]
    omega
/-- a list or tuple walked -/
def fSeq (h : M SV) : M (List D) := fun en => (h en).bind fun p => (datS p.1).bind fun d => (seqV d).bind fun ds => some (ds, p.2)
theorem s_seq {h : M SV} (ha : PE X a (tE X.K h)) : PI X tg a (tI X.K false (fSeq h)) := ⟨fun pins s σ H R I ⟨G, en, ds, en', RR, hf, k⟩ => by
  obtain ⟨⟨sv, en1⟩, h1, hf⟩ := Option.bind_eq_some_iff.mp hf
  obtain ⟨d, h2, hf⟩ := Option.bind_eq_some_iff.mp hf
  obtain ⟨ds', h3, hf⟩ := Option.bind_eq_some_iff.mp hf
  cases hf
  have z := datS_ok h2
  rcases seqV_ok h3 with q | q
  · refine (pi_list (tg := tg) ha).run pins s σ H R I ⟨G, en, sv, _, RR, h1, fun v G' H' st r => ?_⟩
    have z' : sv = .dat (.list ds) := by rw [← q]; exact z
    subst z'
    cases (show DP X.K G' v (.list ds) from r) with
    | lst g1 g2 => exact ⟨_, rfl, ⟨_, SqL.of (st.rel.gh.lst g1)⟩, k _ G' H' st (it_list g1 g2)⟩
  · refine (pi_tup (tg := tg) ha).run pins s σ H R I ⟨G, en, sv, _, RR, h1, fun v G' H' st r => ?_⟩
    have z' : sv = .dat (.tuple ds) := by rw [← q]; exact z
    subst z'
    cases (show DP X.K G' v (.tuple ds) from r) with
    | tup g1 g2 => exact ⟨_, rfl, ⟨_, seqT_gh st.rel.gh g1.sq⟩, k _ G' H' st (it_tup g1.sq g2)⟩⟩
variable {fr : M (List Op)} {p : Pos}
def int1 : List D → Option Int
  | [.int j] => some j
  | _ => none
def int2 : List D → Option (Int × Int)
  | [.int i, .int j] => some (i, j)
  | _ => none
theorem int1_ok {j : Int} : ∀ {ds : List D}, int1 ds = some j → ds = [.int j]
  | [.int _], h => by cases h; rfl
  | [], h => by cases h
  | [.none], h => by cases h
  | [.bool _], h => by cases h
  | [.str _], h => by cases h
  | [.list _], h => by cases h
  | [.tuple _], h => by cases h
  | [.dict _], h => by cases h
  | d :: _ :: _, h => by cases d <;> cases h
theorem int2_ok {q : Int × Int} {ds : List D} (h : int2 ds = some q) : ds = [.int q.1, .int q.2] := by
  unfold int2 at h
  split at h
  · cases h; rfl
  · cases h
def fRng1 (fr : M (List Op)) : M (List D) := fun en => (fr en).bind fun p => (rsAll p.1 p.2).bind fun ds => (int1 ds).bind fun j => if -1000000 ≤ j ∧ j ≤ 1000000 then some (rngD 0 j.toNat, p.2) else none
def fRng2 (fr : M (List Op)) : M (List D) := fun en => (fr en).bind fun p => (rsAll p.1 p.2).bind fun ds => (int2 ds).bind fun q => if -1000000 ≤ q.1 ∧ q.1 ≤ 1000000 ∧ -1000000 ≤ q.2 ∧ q.2 ≤ 1000000 then some (rngD q.1 (q.2 - q.1).toNat, p.2) else none
theorem s_rng1 {x : Str} (hx : x = "range") (hg : Gl X x) (hm : X.mg x = none) (ha : PA X [a] (tOs X.K fr)) (hs : starEach [a] X.env = [(false, eval a X.env)]) : PI X tg (.Call (.Name x p) [a] [] pos) (tI X.K false (fRng1 fr)) := by
  subst hx
  refine pi_weak (pi_range1 hg hm ha hs) fun σ H R ⟨G, en, ds, en', RR, hf, k⟩ => ?_
  obtain ⟨⟨os, en1⟩, h1, hf⟩ := Option.bind_eq_some_iff.mp hf
  obtain ⟨dd, h2, hf⟩ := Option.bind_eq_some_iff.mp hf
  obtain ⟨j, h3, hf⟩ := Option.bind_eq_some_iff.mp hf
  split at hf
  · rename_i hl
    cases hf
    have z := int1_ok h3
    subst z
    refine ⟨G, en, os, _, RR, h1, fun vs G' H' st q => ?_⟩
    obtain ⟨v, rfl, hv⟩ := (rsAll_ok st.rel q h2).one
    exact ⟨j, by rw [hv.int], by omega, by omega, k _ G' H' st it_rng⟩
  · cases hf
theorem s_rng2 {x : Str} (hx : x = "range") (hg : Gl X x) (hm : X.mg x = none) (ha : PA X [a, b] (tOs X.K fr)) (hs : starEach [a, b] X.env = [(false, eval a X.env), (false, eval b X.env)]) (hs2 : starEach [b] X.env = [(false, eval b X.env)]) :
    PI X tg (.Call (.Name x p) [a, b] [] pos) (tI X.K false (fRng2 fr)) := by
  subst hx
  refine pi_weak (pi_range2 hg hm ha hs hs2) fun σ H R ⟨G, en, ds, en', RR, hf, k⟩ => ?_
  obtain ⟨⟨os, en1⟩, h1, hf⟩ := Option.bind_eq_some_iff.mp hf
  obtain ⟨dd, h2, hf⟩ := Option.bind_eq_some_iff.mp hf
  obtain ⟨j, h3, hf⟩ := Option.bind_eq_some_iff.mp hf
  split at hf
  · rename_i hl
    cases hf
    have z := int2_ok h3
    subst z
    refine ⟨G, en, os, _, RR, h1, fun vs G' H' st q => ?_⟩
    obtain ⟨v, w, rfl, hv, hw⟩ := (rsAll_ok st.rel q h2).two
    exact ⟨j.1, j.2, by rw [hv.int, hw.int], ⟨by omega, by omega, by omega, by omega⟩, k _ G' H' st it_rng⟩
  · cases hf
/-- zip of two lists, of two tuples -/
def zipV : List SV → Option (List D)
  | [.dat (.list xs), .dat (.list ys)] => some (zipD xs ys)
  | [.dat (.tuple xs), .dat (.tuple ys)] => some (zipD xs ys)
  | _ => none
def fZip (fr : M (List SV)) : M (List D) := fun en => (fr en).bind fun p => (zipV p.1).bind fun ds => some (ds, p.2)
theorem s_zip {fv : M (List SV)} {x : Str} {elts : List Expr} {kk : Nat} {tpos : Pos} (hx : x = "zip") (hg : Gl X x) (hm : X.mg x = none) (ha : PA X [a, b] (tVs X.K fv)) (hs : starEach [a, b] X.env = (false, eval a X.env) :: starEach [b] X.env) (hpl : (backTo pos (starEach [b] X.env)).any (·.1) = false) :
    PI X (.Tuple elts kk tpos) (.Call (.Name x p) [a, b] [] pos) (tI X.K true (fZip fv)) := by
  subst hx
  refine pi_weak (RZ.pi_zipA hg hm ha hs hpl) fun σ H R ⟨G, en, ds, en', RR, hf, k⟩ => ?_
  obtain ⟨⟨os, en1⟩, h1, hf⟩ := Option.bind_eq_some_iff.mp hf
  obtain ⟨dd, h2, hf⟩ := Option.bind_eq_some_iff.mp hf
  cases hf
  refine ⟨G, en, os, _, RR, h1, fun vs G' H' st q => ?_⟩
  unfold zipV at h2
  split at h2
  · rename_i xs ys e
    cases h2
    have e : os = [.dat (.list xs), .dat (.list ys)] := e
    subst e
    cases q with
    | cons r1 q =>
      cases q with
      | cons r2 q =>
        cases q
        cases (show DP X.K G' _ (.list xs) from r1) with
        | lst g1 g2 =>
          cases (show DP X.K G' _ (.list ys) from r2) with
          | lst g3 g4 => exact ⟨_, _, _, _, rfl, .inl ⟨SqL.of (st.rel.gh.lst g1), SqL.of (st.rel.gh.lst g3), k _ G' H' st (it_zipL g1 g3 g2 g4)⟩⟩
  · rename_i xs ys e
    cases h2
    have e : os = [.dat (.tuple xs), .dat (.tuple ys)] := e
    subst e
    cases q with
    | cons r1 q =>
      cases q with
      | cons r2 q =>
        cases q
        cases (show DP X.K G' _ (.tuple xs) from r1) with
        | tup g1 g2 =>
          cases (show DP X.K G' _ (.tuple ys) from r2) with
          | tup g3 g4 => exact ⟨_, _, _, _, rfl, .inr ⟨seqT_gh st.rel.gh g1.sq, seqT_gh st.rel.gh g3.sq, k _ G' H' st (it_zipT g1.sq g3.sq g2 g4)⟩⟩
  · cases h2
end
end Pf

namespace Pf
open PySem L2

/-! #### a block's own names -/
def wipeE (en : En) : List Nat → En
  | [] => en
  | v :: vs => (wipeE en vs).set v none
def unwipe (en0 en1 : En) : List Nat → En
  | [] => en1
  | v :: vs => (unwipe en0 en1 vs).set v (en0.getD v none)
theorem wipeE_len (en : En) : ∀ vs : List Nat, (wipeE en vs).length = en.length
  | [] => rfl
  | v :: vs => by unfold wipeE; rw [List.length_set, wipeE_len en vs]
theorem unwipe_len (en0 en1 : En) : ∀ vs : List Nat, (unwipe en0 en1 vs).length = en1.length
  | [] => rfl
  | v :: vs => by unfold unwipe; rw [List.length_set, unwipe_len en0 en1 vs]
theorem wipeE_some {en : En} {i : Nat} {s : SV} : ∀ {vs : List Nat}, (wipeE en vs)[i]? = some (some s) → en[i]? = some (some s) ∧ i ∉ vs
  | [], h => ⟨h, List.not_mem_nil⟩
  | v :: vs, h => by
    unfold wipeE at h
    rcases set_get h with ⟨_, q⟩ | ⟨ne, h⟩
    · cases q
    · obtain ⟨h1, h2⟩ := wipeE_some h
      exact ⟨h1, fun m => (List.mem_cons.mp m).elim ne h2⟩
theorem wipeE_out {en : En} {i : Nat} : ∀ {vs : List Nat}, i ∉ vs → (wipeE en vs)[i]? = en[i]?
  | [], _ => rfl
  | v :: vs, h => by
    unfold wipeE
    rw [List.getElem?_set_ne fun e => h (by rw [e]; exact List.mem_cons_self)]
    exact wipeE_out fun m => h (List.mem_cons_of_mem _ m)
theorem wipe_in {σ : L2.St} {i : Nat} : ∀ {vs : List Nat}, i ∈ vs → i < σ.length → (wipe σ vs)[i]? = some none
  | v :: vs, h, hl => by
    unfold wipe
    by_cases e : v = i
    · subst e
      rw [List.getElem?_set_self (by rw [wipe_length]; exact hl)]
    · rw [List.getElem?_set_ne e]
      exact wipe_in ((List.mem_cons.mp h).resolve_left fun z => e z.symm) hl
theorem wipe_eq {σ σ2 : L2.St} {vs : List Nat} (hl : σ2.length = σ.length) (h : ∀ i, i ∉ vs → σ2[i]? = σ[i]?) : wipe σ2 vs = wipe σ vs := by
  apply List.ext_getElem?
  intro i
  by_cases hi : i ∈ vs
  · by_cases hl2 : i < σ.length
    · rw [wipe_in hi hl2, wipe_in hi (by rw [hl]; exact hl2)]
    · rw [List.getElem?_eq_none (by rw [wipe_length, hl]; omega), List.getElem?_eq_none (by rw [wipe_length]; omega)]
  · rw [wipe_out hi, wipe_out hi]
    exact h i hi
theorem unwipe_out {en0 en1 : En} {i : Nat} : ∀ {vs : List Nat}, i ∉ vs → (unwipe en0 en1 vs)[i]? = en1[i]?
  | [], _ => rfl
  | v :: vs, h => by
    unfold unwipe
    rw [List.getElem?_set_ne fun e => h (by rw [e]; exact List.mem_cons_self)]
    exact unwipe_out fun m => h (List.mem_cons_of_mem _ m)
theorem unwipe_in {en0 en1 : En} {i : Nat} : ∀ {vs : List Nat}, i ∈ vs → i < en1.length → (unwipe en0 en1 vs)[i]? = some (en0.getD i none)
  | v :: vs, h, hl => by
    unfold unwipe
    by_cases e : v = i
    · subst e
      rw [List.getElem?_set_self (by rw [unwipe_len]; exact hl)]
    · rw [List.getElem?_set_ne e]
      exact unwipe_in ((List.mem_cons.mp h).resolve_left fun z => e z.symm) hl
/-- a slot of the restored -/
theorem unwipe_some {en0 en1 : En} {i : Nat} {s : SV} {vs : List Nat} (h : (unwipe en0 en1 vs)[i]? = some (some s)) : (i ∈ vs ∧ en0[i]? = some (some s)) ∨ (i ∉ vs ∧ en1[i]? = some (some s)) := by
  by_cases hi : i ∈ vs
  · by_cases hl : i < en1.length
    · rw [unwipe_in hi hl] at h
      refine .inl ⟨hi, ?_⟩
      have h' : en0.getD i none = some s := Option.some.inj h
      rw [List.getD_eq_getElem?_getD] at h'
      cases e : en0[i]? with
      | none => rw [e] at h'; cases h'
      | some o => rw [e] at h'; exact congrArg some h'
    · rw [List.getElem?_eq_none (by rw [unwipe_len]; omega)] at h
      cases h
  · exact .inr ⟨hi, by rw [← unwipe_out (en0 := en0) hi]; exact h⟩
section
variable {K : PySem.W.Frag} {σ σ2 : L2.St} {G G1 G2 H H1 H2 : Hp} {en en1 en2 : En} {vs : List Nat}
theorem Rel.wipe (R : Rel K G H σ en) (vs : List Nat) : Rel K G H (wipe σ vs) (wipeE en vs) where
  gh := R.gh
  len := by rw [wipeE_len, wipe_length]; exact R.len
  slot := fun i sv e => by
    obtain ⟨e1, n⟩ := wipeE_some e
    obtain ⟨v, hv, hs⟩ := R.slot i sv e1
    exact ⟨v, by rw [wipe_out n]; exact hv, hs⟩
  sep := fun i j s s' v e1 e2 w1 w2 f1 f2 => by
    obtain ⟨e1, n1⟩ := wipeE_some e1
    obtain ⟨e2, n2⟩ := wipeE_some e2
    rw [wipe_out n1] at f1
    rw [wipe_out n2] at f2
    exact R.sep i j s s' v e1 e2 w1 w2 f1 f2
theorem own_wipe {b : Addr} (h : Own (wipe σ vs) (wipeE en vs) b) : Own σ en b := by
  obtain ⟨i, s, e, w, f⟩ := h
  obtain ⟨e1, n⟩ := wipeE_some e
  rw [wipe_out n] at f
  exact ⟨i, s, e1, w, f⟩
/-- behind a turn: the own names are forgotten; the list L that no slot has may have grown -/
theorem Stp.turn {σ0 : L2.St} {en0 : En} (S : Stp K (L2.wipe σ0 vs) G1 H1 (wipeE en0 vs) σ2 G2 H2 en2) (hw : L2.wipe σ2 vs = L2.wipe σ0 vs) {L : Addr} {o o' : HO} (h1 : H1 L = none) (h2 : H2 L = some o') (g2 : G2 L = none) (no : ¬ Own σ2 en2 L) :
    Stp K (L2.wipe σ0 vs) G1 H1 (wipeE en0 vs) (L2.wipe σ0 vs) G2 (upd H2 L o) (wipeE en2 vs) ∧ ¬ Own (L2.wipe σ0 vs) (wipeE en2 vs) L := by
  have R := S.rel.wipe vs
  rw [hw] at R
  have no2 : ¬ Own (L2.wipe σ0 vs) (wipeE en2 vs) L := fun z => no (own_wipe (by rw [hw]; exact z))
  refine ⟨⟨⟨R.gh.write g2, R.len, fun i sv e => ?_, R.sep⟩, S.ex, fun b u hb n => ?_, fun b hb => ?_, S.fresh, fun b z => S.sub b (own_wipe (by rw [hw]; exact z)), fun i kvs e => ?_⟩, no2⟩
  · obtain ⟨v, hv, hs⟩ := R.slot i sv e
    refine ⟨v, hv, hs.carry (Ex.refl _) fun a u w ev ha ga => ⟨?_, ga⟩⟩
    rw [upd_ne]
    · exact ha
    · rintro rfl
      subst ev
      exact no2 ⟨i, sv, e, w, hv⟩
  · rw [upd_ne (ne_of_none hb h1)]
    exact S.frame b u hb n
  · by_cases z : b = L
    · subst z; rw [upd_same]; exact Option.some_ne_none _
    · rw [upd_ne z]; exact S.live b hb
  · obtain ⟨e0, n⟩ := wipeE_some e
    obtain ⟨_, kv, f⟩ := S.prot i kvs e
    exact ⟨rfl, kv, by rw [wipeE_out n]; exact f⟩
/-- .. the loop is over: the own names stand as ahead of it -/
theorem Stp.leave (R1 : Rel K G1 H1 σ en1) (S : Stp K (L2.wipe σ vs) G1 H1 (wipeE en1 vs) (L2.wipe σ vs) G2 H2 en2) : Stp K σ G1 H1 en1 σ G2 H2 (unwipe en1 en2 vs) := by
  -- an own address of a hidden slot
  have hid : ∀ (i : Nat) (sv : SV) (a : Addr), i ∈ vs → en1[i]? = some (some sv) → ownB sv = true → σ[i]? = some (some (V.ref a)) → ¬ Own (L2.wipe σ vs) (wipeE en1 vs) a := fun i sv a hi e w f ⟨j, s, e', w', f'⟩ => by
    obtain ⟨e1, n⟩ := wipeE_some e'
    rw [wipe_out n] at f'
    exact n (R1.sep j i s sv _ e1 e w' w f' f ▸ hi)
  have carry : ∀ (i : Nat) (sv : SV) (v : V), i ∈ vs → en1[i]? = some (some sv) → σ[i]? = some (some v) → SR K G1 H1 v sv → SR K G2 H2 v sv := fun i sv v hi e f hs =>
    hs.carry S.ex fun a u w ev ha ga => by
      subst ev
      have n := hid i sv a hi e w f
      refine ⟨S.frame a u ha n, ?_⟩
      cases q : G2 a with
      | none => rfl
      | some u' =>
        rcases S.fresh a (by rw [q]; exact Option.some_ne_none _) with z | z | z
        · exact absurd ga z
        · rw [z] at ha; cases ha
        · exact absurd z n
  refine ⟨⟨S.rel.gh, by rw [unwipe_len]; have := S.rel.len; rw [wipe_length] at this; exact this, fun i sv e => ?_, fun i j s s' v e1 e2 w1 w2 f1 f2 => ?_⟩, S.ex, fun b o hb n => S.frame b o hb fun z => n (own_wipe z), S.live, fun b hb => (S.fresh b hb).imp id fun z => z.imp id own_wipe, fun b ⟨i, s, e, w, f⟩ => ?_, fun i kvs e => ⟨rfl, ?_⟩⟩
  · rcases unwipe_some e with ⟨hi, e⟩ | ⟨hi, e⟩
    · obtain ⟨v, hv, hs⟩ := R1.slot i sv e
      exact ⟨v, hv, carry i sv v hi e hv hs⟩
    · obtain ⟨v, hv, hs⟩ := S.rel.slot i sv e
      rw [wipe_out hi] at hv
      exact ⟨v, hv, hs⟩
  · have mixed : ∀ (i j : Nat) (s s' : SV), i ∈ vs → en1[i]? = some (some s) → ownB s = true → j ∉ vs → en2[j]? = some (some s') → ownB s' = true → σ[i]? = some (some v) → σ[j]? = some (some v) → False := fun i j s s' hi e1 w1 hj e2 w2 f1 f2 => by
      obtain ⟨v', hv', hs'⟩ := R1.slot i s e1
      rw [f1] at hv'
      cases hv'
      obtain ⟨a, rfl, ha, ga⟩ := hs'.own_at w1
      rcases S.sub a ⟨j, s', e2, w2, by rw [wipe_out hj]; exact f2⟩ with z | z
      · exact hid i s a hi e1 w1 f1 z
      · exact ha z
    rcases unwipe_some e1 with ⟨hi, e1⟩ | ⟨hi, e1⟩
    · rcases unwipe_some e2 with ⟨hj, e2⟩ | ⟨hj, e2⟩
      · exact R1.sep i j s s' v e1 e2 w1 w2 f1 f2
      · exact (mixed i j s s' hi e1 w1 hj e2 w2 f1 f2).elim
    · rcases unwipe_some e2 with ⟨hj, e2⟩ | ⟨hj, e2⟩
      · exact (mixed j i s' s hj e2 w2 hi e1 w1 f2 f1).elim
      · exact S.rel.sep i j s s' v e1 e2 w1 w2 (by rw [wipe_out hi]; exact f1) (by rw [wipe_out hj]; exact f2)
  · rcases unwipe_some e with ⟨hi, e⟩ | ⟨hi, e⟩
    · exact .inl ⟨i, s, e, w, f⟩
    · exact (S.sub b ⟨i, s, e, w, by rw [wipe_out hi]; exact f⟩).imp own_wipe id
  · by_cases hi : i ∈ vs
    · have hl : i < en2.length := by
        have a1 := S.rel.len
        rw [wipe_length, ← R1.len] at a1
        rw [a1]
        exact (List.getElem?_eq_some_iff.mp e).1
      refine ⟨kvs, ?_⟩
      rw [unwipe_in hi hl, List.getD_eq_getElem?_getD, e]
      rfl
    · obtain ⟨_, kv, f⟩ := S.prot i kvs (by rw [wipeE_out hi]; exact e)
      exact ⟨kv, by rw [unwipe_out hi]; exact f⟩
/-- a list that no slot has stays -/
theorem Stp.keepL {σ' : L2.St} (S : Stp K σ G1 H1 en1 σ' G2 H2 en2) {L : Addr} {o : HO} (h : H1 L = some o) (g : G1 L = none) (no : ¬ Own σ en1 L) : H2 L = some o ∧ G2 L = none ∧ ¬ Own σ' en2 L := by
  refine ⟨S.frame L o h no, ?_, fun z => (S.sub L z).elim no fun q => by rw [q] at h; cases h⟩
  cases q : G2 L with
  | none => rfl
  | some u =>
    rcases S.fresh L (by rw [q]; exact Option.some_ne_none _) with z | z | z
    · exact absurd g z
    · rw [z] at h; cases h
    · exact absurd z no
end

/-! #### [elt for tg in it if cond] -/
def cLoop (vs : List Nat) (bd : D → En → Option En) (cond : M Bool) (elt : M SV) : List D → En → Option (List D × En)
  | [], en => some ([], en)
  | d :: ds, en => (bd d en).bind fun en1 => (cond en1).bind fun c => if c.1 = true then (elt c.2).bind fun v => (datS v.1).bind fun x => (cLoop vs bd cond elt ds (wipeE v.2 vs)).bind fun r => some (x :: r.1, r.2)
    else cLoop vs bd cond elt ds (wipeE c.2 vs)
def fComp (vs : List Nat) (it : M (List D)) (bd : D → En → Option En) (cond : M Bool) (elt : M SV) : M (List D) := fun en => (it en).bind fun p => if p.1.length ≤ lim then (cLoop vs bd cond elt p.1 (wipeE p.2 vs)).bind fun q => some (q.1, unwipe p.2 q.2 vs) else none
theorem lc_read {K : PySem.W.Frag} {w : Bool} {vs is : List Nat} {it : M (List D)} {bd : D → En → Option En} {cond : M Bool} {elt : M SV} (hsub : ∀ i ∈ is, i ∈ vs) : ∀ σ H Q, tN K (fComp vs it bd cond elt) σ H Q → tLc (tI K w it) (tG K w is bd) (tT K cond) (tE K elt) vs σ H Q :=
  fun σ H Q ⟨G, en, dsr, en', R, hf, k⟩ => by
    obtain ⟨⟨ds, en1⟩, h1, hf⟩ := Option.bind_eq_some_iff.mp hf
    split at hf
    rotate_left
    · cases hf
    rename_i hlen
    obtain ⟨⟨acc, enf⟩, h2, hf⟩ := Option.bind_eq_some_iff.mp hf
    cases hf
    refine ⟨G, en, ds, en1, R, h1, fun J G1 H1 s1 ok => fun L hL => ?_⟩
    have R1 := s1.rel
    have Rw := R1.wipe vs
    refine ⟨fun i m Hc => m = ds.length - i ∧ i ≤ ds.length ∧ ∃ Gc enc av ad rest, Stp K (wipe σ vs) G1 H1 (wipeE en1 vs) (wipe σ vs) Gc Hc enc ∧ Hc L = some (.lst av) ∧ Gc L = none ∧ ¬ Own (wipe σ vs) enc L ∧ DPs K Gc av ad ∧ ad.length ≤ i ∧
      cLoop vs bd cond elt (ds.drop i) enc = some (rest, enf) ∧ acc = ad ++ rest, ⟨ds.length, rfl, Nat.zero_le _, G1, wipeE en1 vs, [], [], acc, (Pst.lay Rw.gh hL).stp Rw, upd_same, Rw.gh.free hL, fun z => (Rw.own z).1 hL, .nil, Nat.zero_le _, h2, rfl⟩, ?_⟩
    rintro i m Hc ⟨rfl, hi, Gc, enc, av, ad, rest, sc, hc, gc, no, hd, hal, hloop, hacc⟩
    obtain ⟨okI, okE⟩ := ok Gc Hc sc.ex sc.rel.gh i
    by_cases hlt : i < ds.length
    · obtain ⟨go, yl⟩ := okI ds[i] (List.getElem?_eq_getElem hlt)
      rw [List.drop_eq_getElem_cons hlt] at hloop
      obtain ⟨en2, hb, hloop⟩ := Option.bind_eq_some_iff.mp hloop
      obtain ⟨⟨c, en3⟩, hcn, hloop⟩ := Option.bind_eq_some_iff.mp hloop
      refine .inr ⟨go, fun H' => ds.length - (i + 1) = ds.length - (i + 1) ∧ i + 1 ≤ ds.length ∧ ∃ Gc enc av ad rest, Stp K (wipe σ vs) G1 H1 (wipeE en1 vs) (wipe σ vs) Gc H' enc ∧ H' L = some (.lst av) ∧ Gc L = none ∧ ¬ Own (wipe σ vs) enc L ∧ DPs K Gc av ad ∧ ad.length ≤ i + 1 ∧
        cLoop vs bd cond elt (ds.drop (i + 1)) enc = some (rest, enf) ∧ acc = ad ++ rest, fun H' w => ⟨_, by omega, w⟩, fun x H' y => ?_⟩
      obtain ⟨G3, ps, dx⟩ := yl x H' y
      have s2 := sc.trans (ps.stp sc.rel)
      obtain ⟨hL2, gL2, _⟩ := (ps.stp sc.rel).keepL hc gc no
      refine ⟨G3, enc, _, en2, s2.rel, dx, hb, fun σ2 G4 H4 s3 l3 u3 => ?_⟩
      obtain ⟨hL3, gL3, no3⟩ := s3.keepL hL2 gL2 no
      have hw : wipe σ2 vs = wipe σ vs := wipe_eq (by rw [l3, wipe_length]) fun j hj => by rw [u3 j fun z => hj (hsub j z), wipe_out hj]
      refine ⟨hw, G4, en2, c, en3, s3.rel, hcn, fun G5 H5 s4 => ?_⟩
      obtain ⟨hL4, gL4, no4⟩ := s4.keepL hL3 gL3 no3
      cases c with
      | false =>
        refine iteF ?_
        obtain ⟨st, no5⟩ := (s2.trans (s3.trans s4)).turn (o := .lst av) hw hL hL4 gL4 no4
        have eu : upd H5 L (.lst av) = H5 := by
          funext b
          by_cases z : b = L
          · subst z; rw [upd_same, hL4]
          · rw [upd_ne z]
        rw [eu] at st
        exact ⟨rfl, by omega, G5, _, av, ad, rest, st, hL4, gL4, no5, dps_ex (ps.ex.trans (s3.ex.trans s4.ex)) _ _ hd, by omega, hloop, hacc⟩
      | true =>
        refine iteT ?_
        rw [if_pos rfl] at hloop
        obtain ⟨⟨sv, en4⟩, he, hloop⟩ := Option.bind_eq_some_iff.mp hloop
        obtain ⟨dd, hdd, hloop⟩ := Option.bind_eq_some_iff.mp hloop
        obtain ⟨⟨rest2, enf2⟩, hl2, hloop⟩ := Option.bind_eq_some_iff.mp hloop
        cases hloop
        have z := datS_ok hdd
        subst z
        refine ⟨G5, en3, _, en4, s4.rel, he, fun v G6 H6 s5 r => ?_⟩
        obtain ⟨hL5, gL5, no5⟩ := s5.keepL hL4 gL4 no4
        obtain ⟨st, no6⟩ := (s2.trans (s3.trans (s4.trans s5))).turn (o := .lst (av ++ [v])) hw hL hL5 gL5 no5
        have hd2 := dps_ex (ps.ex.trans (s3.ex.trans (s4.ex.trans s5.ex))) _ _ hd
        refine ⟨av, hL5, ?_, rfl, by omega, G6, _, av ++ [v], ad ++ [dd], rest2, st, upd_same, gL5, no6, hd2.append (.cons r .nil), by rw [List.length_append]; show ad.length + 1 ≤ i + 1; omega, hl2, by rw [hacc, List.append_assoc]; rfl⟩
        rw [hd.length]
        exact Nat.lt_of_lt_of_le (Nat.lt_of_le_of_lt hal (Nat.lt_of_lt_of_le hlt hlen)) line_lim
    · have e : i = ds.length := by omega
      subst e
      rw [List.drop_length] at hloop
      cases hloop
      rw [List.append_nil] at hacc
      subst hacc
      have sl := s1.trans (Stp.leave R1 sc)
      refine .inl ⟨okE (Nat.le_refl _), k L av Gc Hc sl (free_of_live s1 hL) hc gc (fun ⟨j, s, e, w, f⟩ => ?_) hd⟩
      rcases unwipe_some e with ⟨hj, e⟩ | ⟨hj, e⟩
      · exact (R1.own ⟨j, s, e, w, f⟩).1 hL
      · exact no ⟨j, s, e, w, by rw [wipe_out hj]; exact f⟩
end Pf

namespace Pf
open PySem L2

/-! ### statements told by data -/
inductive Fl where
  | next | brk | cont | ret (d : D)
abbrev MS := En → Option (Fl × En)
def flS (K : PySem.W.Frag) (G' : Hp) (D : Ends) (σ' : L2.St) (H' : Hp) : Fl → Prop
  | .next => D.nx σ' H'
  | .brk => D.bk σ' H'
  | .cont => D.ct σ' H'
  | .ret d => ∀ v, DP K G' v d → D.rt v H'
def tS (K : PySem.W.Frag) (f : MS) : TS := fun D σ H => ∃ G en fl en', Rel K G H σ en ∧ f en = some (fl, en') ∧ ∀ σ' G' H', Stp K σ G H en σ' G' H' en' → flS K G' D σ' H' fl
theorem ps_weak {X : Cx} {e : Stmt} {t t' : TS} (h : PS X e t) (w : ∀ D σ H, t' D σ H → t D σ H) : PS X e t' := ⟨fun pins s σ H D I q => h.run pins s σ H D I (w D σ H q)⟩
theorem pss_weak {X : Cx} {e : List Stmt} {t t' : TS} (h : PSs X e t) (w : ∀ D σ H, t' D σ H → t D σ H) : PSs X e t' := ⟨fun pins s σ H D I q => h.run pins s σ H D I (w D σ H q)⟩
def fNext : MS := fun en => some (.next, en)
def aft (g : MS) (p : Fl × En) : Option (Fl × En) := match p.1 with
  | .next => g p.2
  | fl => some (fl, p.2)
def fSeq2 (f g : MS) : MS := fun en => (f en).bind (aft g)
section
variable {X : Cx} {K : PySem.W.Frag} {st : Stmt} {sts : List Stmt} {f g : MS} {a b e : Expr} {h : M SV} {pos : Pos} {fa fb : M Op}
theorem s_nil : PSs X [] (tS X.K fNext) := pss_weak pss_nil fun D σ H ⟨G, en, fl, en', R, hf, k⟩ => by
  cases hf
  exact k σ G H (Stp.refl R)
theorem s_cons (h1 : PS X st (tS X.K f)) (h2 : PSs X sts (tS X.K g)) : PSs X (st :: sts) (tS X.K (fSeq2 f g)) := pss_weak (pss_cons h1 h2) fun D σ H ⟨G, en, fl, en', R, hf, k⟩ => by
  obtain ⟨⟨fl1, en1⟩, h3, h4⟩ := Option.bind_eq_some_iff.mp hf
  refine ⟨G, en, fl1, en1, R, h3, fun σ1 G1 H1 s1 => ?_⟩
  cases fl1 with
  | next => exact ⟨G1, en1, fl, en', s1.rel, h4, fun σ' G' H' st => k σ' G' H' (s1.trans st)⟩
  | brk => cases h4; exact k σ1 G1 H1 s1
  | cont => cases h4; exact k σ1 G1 H1 s1
  | ret d => cases h4; exact k σ1 G1 H1 s1
def fRet (h : M SV) : MS := fun en => (h en).bind fun p => (datS p.1).bind fun d => some (.ret d, p.2)
theorem s_ret (ha : PE X e (tE X.K h)) : PS X (.Return (some e) pos) (tS X.K (fRet h)) := ps_weak (ps_ret ha) fun D σ H ⟨G, en, fl, en', R, hf, k⟩ => by
  obtain ⟨⟨sv, en1⟩, h3, hf⟩ := Option.bind_eq_some_iff.mp hf
  obtain ⟨d, h4, hf⟩ := Option.bind_eq_some_iff.mp hf
  cases hf
  have z := datS_ok h4
  refine ⟨G, en, sv, _, R, h3, fun v G' H' s r => ?_⟩
  have z' : sv = .dat d := z
  subst z'
  exact k σ G' H' s v r
def fIf (c : M Bool) (f g : MS) : MS := fun en => (c en).bind fun p => if p.1 = true then f p.2 else g p.2
theorem s_if {t : Expr} {c : M Bool} {xs ys : List Stmt} (ht : PT X t (tT X.K c)) (h1 : PSs X xs (tS X.K f)) (h2 : PSs X ys (tS X.K g)) : PS X (.If t xs ys pos) (tS X.K (fIf c f g)) :=
  ps_weak (ps_if ht h1 h2) fun D σ H ⟨G, en, fl, en', R, hf, k⟩ => by
    obtain ⟨⟨d, en1⟩, h3, hf⟩ := Option.bind_eq_some_iff.mp hf
    refine ⟨G, en, d, en1, R, h3, fun G1 H1 s1 => ?_⟩
    cases d with
    | true => exact iteT ⟨G1, en1, fl, en', s1.rel, hf, fun σ' G' H' st => k σ' G' H' (s1.trans st)⟩
    | false => exact iteF ⟨G1, en1, fl, en', s1.rel, hf, fun σ' G' H' st => k σ' G' H' (s1.trans st)⟩
theorem s_pass : PS X (.Pass pos) (tS X.K fNext) := ps_weak ps_pass fun D σ H ⟨G, en, fl, en', R, hf, k⟩ => by
  cases hf
  exact k σ G H (Stp.refl R)
theorem s_brk : PS X (.Break pos) (tS X.K fun en => some (.brk, en)) := ps_weak ps_break fun D σ H ⟨G, en, fl, en', R, hf, k⟩ => by
  cases hf
  exact k σ G H (Stp.refl R)
theorem s_cont : PS X (.Continue pos) (tS X.K fun en => some (.cont, en)) := ps_weak ps_continue fun D σ H ⟨G, en, fl, en', R, hf, k⟩ => by
  cases hf
  exact k σ G H (Stp.refl R)
def fDrop (h : M SV) : MS := fun en => (h en).bind fun p => some (.next, p.2)
theorem s_drop (ha : PE X e (tE X.K h)) (hs : swapsWith e none pos.line X.env = pure false) : PS X (.Expr e pos) (tS X.K (fDrop h)) := ps_weak (ps_expr ha hs) fun D σ H ⟨G, en, fl, en', R, hf, k⟩ => by
  obtain ⟨⟨sv, en1⟩, h3, hf⟩ := Option.bind_eq_some_iff.mp hf
  cases hf
  exact ⟨G, en, sv, _, R, h3, fun v G' H' s r => k σ G' H' s⟩

/-! #### assignments -/
def fAsg (i : Nat) (h : M SV) : MS := fun en => (h en).bind fun p => (setS i p.1 p.2).bind fun en2 => some (.next, en2)
theorem s_asg {i : Nat} {t : TE} (hp : PS X st (tAsg t (gName i))) (w : ∀ σ H Q, tE X.K h σ H Q → t σ H Q) : PS X st (tS X.K (fAsg i h)) := ps_weak hp fun D σ H ⟨G, en, fl, en', R, hf, k⟩ => by
  obtain ⟨⟨sv, en1⟩, h3, hf⟩ := Option.bind_eq_some_iff.mp hf
  obtain ⟨en2, h4, hf⟩ := Option.bind_eq_some_iff.mp hf
  cases hf
  exact w _ _ _ ⟨G, en, sv, en1, R, h3, fun v G' H' s r => k _ G' H' (s.trans (Stp.assign s.rel r h4))⟩
/-- a new list into a slot -/
theorem Stp.assignL {G0 H0 G H : Hp} {σ0 σ : L2.St} {en0 en en' : En} {i : Nat} {p : Addr} {vs : List V} {ds : List D} (s : Stp K σ0 G0 H0 en0 σ G H en) (h0 : H0 p = none) (hp : H p = some (.lst vs)) (gp : G p = none) (no : ¬ Own σ en p) (hd : DPs K G vs ds) (h : setS i (.olst ds) en = some en') :
    Stp K σ0 G0 H0 en0 (σ.set i (some (.ref p))) G H en' := by
  obtain ⟨hl, rfl, hpr⟩ := setS_ok h
  have R := s.rel
  have hlσ : i < σ.length := by rw [← R.len]; exact hl
  refine ⟨⟨R.gh, by rw [List.length_set, List.length_set]; exact R.len, fun j q e => ?_, fun j l q q' w e1 e2 w1 w2 f1 f2 => ?_⟩, s.ex, s.frame, s.live, s.fresh, fun b ⟨j, q, e, w, f⟩ => ?_, fun j kvs e => ?_⟩
  · rcases set_get e with ⟨rfl, z⟩ | ⟨ne, e⟩
    · cases z
      exact ⟨.ref p, List.getElem?_set_self hlσ, p, vs, rfl, hp, gp, hd⟩
    · obtain ⟨w, hw, hs⟩ := R.slot j q e
      exact ⟨w, by rw [List.getElem?_set_ne (fun z => ne z.symm)]; exact hw, hs⟩
  · have other : ∀ (j : Nat) (q : SV), j ≠ i → en[j]? = some (some q) → ownB q = true → (σ.set i (some (V.ref p)))[j]? = some (some w) → σ[j]? = some (some w) ∧ w ≠ .ref p := fun j q ne e w1 f => by
      rw [List.getElem?_set_ne (fun z => ne z.symm)] at f
      exact ⟨f, fun z => no ⟨j, q, e, w1, by rw [← z]; exact f⟩⟩
    rcases set_get e1 with ⟨z1, _⟩ | ⟨n1, a1⟩
    · rcases set_get e2 with ⟨z2, _⟩ | ⟨n2, a2⟩
      · rw [z1, z2]
      · rw [z1, List.getElem?_set_self hlσ] at f1
        cases f1
        exact absurd rfl (other l q' n2 a2 w2 f2).2
    · rcases set_get e2 with ⟨z2, _⟩ | ⟨n2, a2⟩
      · rw [z2, List.getElem?_set_self hlσ] at f2
        cases f2
        exact absurd rfl (other j q n1 a1 w1 f1).2
      · exact R.sep j l q q' w a1 a2 w1 w2 (other j q n1 a1 w1 f1).1 (other l q' n2 a2 w2 f2).1
  · rcases set_get e with ⟨rfl, z⟩ | ⟨n1, e⟩
    · rw [List.getElem?_set_self hlσ] at f
      cases f
      exact .inr h0
    · rw [List.getElem?_set_ne (fun z => n1 z.symm)] at f
      exact s.sub b ⟨j, q, e, w, f⟩
  · obtain ⟨e1, kv, e2⟩ := s.prot j kvs e
    have ne : i ≠ j := by
      rintro rfl
      exact hpr kv e2
    exact ⟨by rw [List.getElem?_set_ne ne]; exact e1, kv, by rw [List.getElem?_set_ne ne]; exact e2⟩
def fAsgL (i : Nat) (f : M (List D)) : MS := fun en => (f en).bind fun p => (setS i (.olst p.1) p.2).bind fun en2 => some (.next, en2)
theorem s_asgL {i : Nat} {t : TE} {f : M (List D)} (hp : PS X st (tAsg t (gName i))) (w : ∀ σ H Q, tN X.K f σ H Q → t σ H Q) : PS X st (tS X.K (fAsgL i f)) := ps_weak hp fun D σ H ⟨G, en, fl, en', R, hf, k⟩ => by
  obtain ⟨⟨ds, en1⟩, h3, hf⟩ := Option.bind_eq_some_iff.mp hf
  obtain ⟨en2, h4, hf⟩ := Option.bind_eq_some_iff.mp hf
  cases hf
  exact w _ _ _ ⟨G, en, ds, en1, R, h3, fun p vs G' H' s h0 hp gp no hd => k _ G' H' (Stp.assignL s h0 hp gp no hd h4)⟩
/-- target = value -/
def fAsgT (f : D → En → Option En) (h : M SV) : MS := fun en => (h en).bind fun p => (datS p.1).bind fun d => (f d p.2).bind fun en2 => some (.next, en2)
theorem s_asgT {tg : Expr} {is : List Nat} {f : D → En → Option En} (ha : PE X e (tE X.K h)) (hg : PG X tg (tG X.K false is f)) (hs : swapsWithSole [tg] e pos.line X.env = pure false) (hw : swappedStores [tg] e X.env = pure none) (h1 : (assignEach [tg] X.env).map (·.2) = [assign tg X.env]) :
    PS X (.Assign [tg] e pos) (tS X.K (fAsgT f h)) := ps_weak (ps_asg ha hg hs hw h1) fun D σ H ⟨G, en, fl, en', R, hf, k⟩ => by
  obtain ⟨⟨sv, en1⟩, h3, hf⟩ := Option.bind_eq_some_iff.mp hf
  obtain ⟨d, h4, hf⟩ := Option.bind_eq_some_iff.mp hf
  obtain ⟨en2, h5, hf⟩ := Option.bind_eq_some_iff.mp hf
  cases hf
  have z : sv = .dat d := datS_ok h4
  subst z
  exact ⟨G, en, _, en1, R, h3, fun v G' H' s r => ⟨G', en1, d, _, s.rel, .inl r, h5, fun σ' G2 H2 s2 _ _ => k σ' G2 H2 (s.trans s2)⟩⟩
/-! several names at once -/
inductive WI where
  | val (sv : SV)
  | own (sv : SV)
def WR (K : PySem.W.Frag) (G H : Hp) (σ : L2.St) (en : En) (v : V) : WI → Prop
  | .val sv => VR K G v sv
  | .own sv => ∃ p, v = .ref p ∧ SR K G H v sv ∧ ¬ Own σ en p ∧ ∃ o, H p = some o
inductive WRs (K : PySem.W.Frag) (G H H0 : Hp) (σ : L2.St) (en : En) : List V → List WI → Prop
  | nil : WRs K G H H0 σ en [] []
  | cons {v : V} {vs : List V} {w : WI} {ws : List WI} : WR K G H σ en v w → (∀ ds, w = .own ds → ∃ p, v = .ref p ∧ H0 p = none ∧ ∀ q ∈ vs.zip ws, ∀ ds', q.2 = .own ds' → q.1 ≠ v) → WRs K G H H0 σ en vs ws → WRs K G H H0 σ en (v :: vs) (w :: ws)
def tW (K : PySem.W.Frag) (f : M (List WI)) : TA := fun σ H Q => ∃ G en os en', Rel K G H σ en ∧ f en = some (os, en') ∧ ∀ vs G' H', Stp K σ G H en σ G' H' en' → WRs K G' H' H σ en' vs os → Q vs H'
def fW0 : M (List WI) := fun en => some ([], en)
def fWv (h : M SV) (fr : M (List WI)) : M (List WI) := fun en => (h en).bind fun p => (fr p.2).bind fun q => some (.val p.1 :: q.1, q.2)
def fWl (h : M (List D)) (fr : M (List WI)) : M (List WI) := fun en => (h en).bind fun p => (fr p.2).bind fun q => some (.own (.olst p.1) :: q.1, q.2)
theorem WRs.base {G H H1 H0 : Hp} {σ : L2.St} {en : En} {vs : List V} {ws : List WI} (h : WRs K G H H1 σ en vs ws) (l : ∀ b, H1 b = none → H0 b = none) : WRs K G H H0 σ en vs ws := by
  induction h with
  | nil => exact .nil
  | cons a b _ ih => exact .cons a (fun ds e => let ⟨p, e1, e2, e3⟩ := b ds e; ⟨p, e1, l p e2, e3⟩) ih
theorem WRs.new {G H H1 : Hp} {σ : L2.St} {en : En} {vs : List V} {ws : List WI} (h : WRs K G H H1 σ en vs ws) : ∀ q ∈ vs.zip ws, ∀ ds, q.2 = .own ds → ∃ p, q.1 = .ref p ∧ H1 p = none := by
  induction h with
  | nil => intro q hq; cases hq
  | cons a b _ ih =>
    intro q hq ds e
    rcases List.mem_cons.mp (show q ∈ (_, _) :: _ from hq) with rfl | hq
    · obtain ⟨p, e1, e2, _⟩ := b ds e
      exact ⟨p, e1, e2⟩
    · exact ih q hq ds e
variable {es : List Expr} {fr : M (List WI)}
theorem s_w0 : PA X [] (tW X.K fW0) := pa_weak pa_nil fun σ H Q ⟨G, en, os, en', R, hf, k⟩ => by
  cases hf
  exact k _ G H (Stp.refl R) .nil
theorem s_wv (ha : PE X a (tE X.K h)) (hr : PA X es (tW X.K fr)) (hs : starEach (a :: es) X.env = (false, eval a X.env) :: starEach es X.env) : PA X (a :: es) (tW X.K (fWv h fr)) := pa_weak (pa_cons ha hr hs) fun σ H Q ⟨G, en, os, en', R, hf, k⟩ => by
  obtain ⟨⟨o1, en1⟩, h1, hf⟩ := Option.bind_eq_some_iff.mp hf
  obtain ⟨⟨o2, en2⟩, h2, hf⟩ := Option.bind_eq_some_iff.mp hf
  cases hf
  exact ⟨G, en, o1, en1, R, h1, fun v G1 H1 s1 q1 => ⟨G1, en1, o2, _, s1.rel, h2, fun vs G2 H2 s2 q2 => k (v :: vs) G2 H2 (s1.trans s2) (.cons (show VR X.K G2 v o1 from q1.ex s2.ex) (fun _ e => by cases e) (q2.base fun b => free_of_live s1))⟩⟩
theorem s_wl {f : M (List D)} {t : TE} (ha : PE X a t) (w : ∀ σ H Q, tN X.K f σ H Q → t σ H Q) (hr : PA X es (tW X.K fr)) (hs : starEach (a :: es) X.env = (false, eval a X.env) :: starEach es X.env) : PA X (a :: es) (tW X.K (fWl f fr)) := pa_weak (pa_cons ha hr hs) fun σ H Q ⟨G, en, os, en', R, hf, k⟩ => by
  obtain ⟨⟨o1, en1⟩, h1, hf⟩ := Option.bind_eq_some_iff.mp hf
  obtain ⟨⟨o2, en2⟩, h2, hf⟩ := Option.bind_eq_some_iff.mp hf
  cases hf
  refine w _ _ _ ⟨G, en, o1, en1, R, h1, fun p vs G1 H1 s1 h0 hp gp no hd => ⟨G1, en1, o2, _, s1.rel, h2, fun ws G2 H2 s2 q2 => ?_⟩⟩
  obtain ⟨hp2, gp2, no2⟩ := s2.keepL hp gp no
  refine k (.ref p :: ws) G2 H2 (s1.trans s2) (.cons ⟨p, rfl, ⟨p, vs, rfl, hp2, gp2, dps_ex s2.ex _ _ hd⟩, no2, _, hp2⟩ (fun ds e => ⟨p, rfl, h0, fun q hq ds' e' z => ?_⟩) (q2.base fun b => free_of_live s1))
  obtain ⟨p', e1, e2⟩ := q2.new q hq ds' e'
  rw [z] at e1
  cases e1
  rw [e2] at hp
  cases hp
def wiS : WI → SV
  | .val sv => sv
  | .own sv => sv
def setWs : List Nat → List WI → En → Option En
  | i :: is, w :: ws, en => (setS i (wiS w) en).bind fun en1 => setWs is ws en1
  | [], [], en => some en
  | _, _, _ => none
def setVs : List Nat → List V → L2.St → L2.St
  | i :: is, v :: vs, σ => setVs is vs (σ.set i (some v))
  | _, _, σ => σ
theorem own_set {σ : L2.St} {en : En} {i : Nat} {v : V} {sv : SV} {b : Addr} (hl : i < σ.length) (h : Own (σ.set i (some v)) (en.set i (some sv)) b) : (v = .ref b ∧ ownB sv = true) ∨ Own σ en b := by
  obtain ⟨j, s, e, w, f⟩ := h
  rcases set_get e with ⟨z, q⟩ | ⟨n, e⟩
  · cases q
    rw [z, List.getElem?_set_self hl] at f
    cases f
    exact .inl ⟨rfl, w⟩
  · rw [List.getElem?_set_ne (fun z => n z.symm)] at f
    exact .inr ⟨j, s, e, w, f⟩
section
variable {K : PySem.W.Frag}
/-- a new own thing into a slot -/
theorem Stp.assignN {G0 H0 G H : Hp} {σ0 σ : L2.St} {en0 en en' : En} {i : Nat} {p : Addr} {sv : SV} (s : Stp K σ0 G0 H0 en0 σ G H en) (h0 : H0 p = none) (hs : SR K G H (.ref p) sv) (no : ¬ Own σ en p) (h : setS i sv en = some en') : Stp K σ0 G0 H0 en0 (σ.set i (some (.ref p))) G H en' := by
  obtain ⟨hl, rfl, hpr⟩ := setS_ok h
  have R := s.rel
  have hlσ : i < σ.length := by rw [← R.len]; exact hl
  refine ⟨⟨R.gh, by rw [List.length_set, List.length_set]; exact R.len, fun j q e => ?_, fun j l q q' w e1 e2 w1 w2 f1 f2 => ?_⟩, s.ex, s.frame, s.live, s.fresh, fun b z => ?_, fun j kvs e => ?_⟩
  · rcases set_get e with ⟨rfl, z⟩ | ⟨ne, e⟩
    · cases z
      exact ⟨.ref p, List.getElem?_set_self hlσ, hs⟩
    · obtain ⟨w, hw, hq⟩ := R.slot j q e
      exact ⟨w, by rw [List.getElem?_set_ne (fun z => ne z.symm)]; exact hw, hq⟩
  · have other : ∀ (j : Nat) (q : SV), j ≠ i → en[j]? = some (some q) → ownB q = true → (σ.set i (some (V.ref p)))[j]? = some (some w) → σ[j]? = some (some w) ∧ w ≠ .ref p := fun j q ne e w1 f => by
      rw [List.getElem?_set_ne (fun z => ne z.symm)] at f
      exact ⟨f, fun z => no ⟨j, q, e, w1, by rw [← z]; exact f⟩⟩
    rcases set_get e1 with ⟨z1, _⟩ | ⟨n1, a1⟩
    · rcases set_get e2 with ⟨z2, _⟩ | ⟨n2, a2⟩
      · rw [z1, z2]
      · rw [z1, List.getElem?_set_self hlσ] at f1
        cases f1
        exact absurd rfl (other l q' n2 a2 w2 f2).2
    · rcases set_get e2 with ⟨z2, _⟩ | ⟨n2, a2⟩
      · rw [z2, List.getElem?_set_self hlσ] at f2
        cases f2
        exact absurd rfl (other j q n1 a1 w1 f1).2
      · exact R.sep j l q q' w a1 a2 w1 w2 (other j q n1 a1 w1 f1).1 (other l q' n2 a2 w2 f2).1
  · rcases own_set hlσ z with ⟨z1, _⟩ | z
    · cases z1
      exact .inr h0
    · exact s.sub b z
  · obtain ⟨e1, kv, e2⟩ := s.prot j kvs e
    have ne : i ≠ j := by
      rintro rfl
      exact hpr kv e2
    exact ⟨by rw [List.getElem?_set_ne ne]; exact e1, kv, by rw [List.getElem?_set_ne ne]; exact e2⟩
end
theorem setWs_ok {G0 H0 G H : Hp} {σ0 : L2.St} {en0 : En} : ∀ {is : List Nat} {ws : List WI} {vs : List V} {σ : L2.St} {en en' : En}, Stp K σ0 G0 H0 en0 σ G H en → WRs K G H H0 σ en vs ws → setWs is ws en = some en' → Stp K σ0 G0 H0 en0 (setVs is vs σ) G H en'
  | [], [], _, _, _, _, s, .nil, e => by cases e; exact s
  | _ :: _, [], _, _, _, _, _, .nil, e => by cases e
  | [], _ :: _, _, _, _, _, _, .cons _ _ _, e => by cases e
  | i :: is, w :: ws, v :: vs, σ, en, en', s, .cons a b c, e => by
    obtain ⟨en1, h1, h2⟩ := Option.bind_eq_some_iff.mp e
    obtain ⟨hl, e1, _⟩ := setS_ok h1
    have hlσ : i < σ.length := by rw [← s.rel.len]; exact hl
    have rest : ∀ (s' : Stp K σ0 G0 H0 en0 (σ.set i (some v)) G H en1), WRs K G H H0 (σ.set i (some v)) en1 vs ws := fun s' => by
      have good : ∀ {vs' : List V} {ws' : List WI}, WRs K G H H0 σ en vs' ws' → (∀ q ∈ vs'.zip ws', ∀ ds', q.2 = .own ds' → ∀ ds, w = .own ds → q.1 ≠ v) → WRs K G H H0 (σ.set i (some v)) en1 vs' ws' := by
        intro vs' ws' h
        induction h with
        | nil => intro _; exact .nil
        | @cons v' vs' w' ws' a' b' _ ih =>
          intro hq
          refine .cons ?_ b' (ih fun q hq' => hq q (List.mem_cons_of_mem _ hq'))
          cases w' with
          | val sv => exact a'
          | own ds' =>
            obtain ⟨p, e3, e4, e6, e7⟩ := a'
            refine ⟨p, e3, e4, fun z => ?_, e7⟩
            rw [e1] at z
            rcases own_set hlσ z with ⟨z1, z2⟩ | z
            · cases w with
              | own ds => exact hq (v', .own ds') List.mem_cons_self ds' rfl ds rfl (e3.trans z1.symm)
              | val sv =>
                have z3 : ownB sv = true := z2
                rw [(show VR K G v sv from a).not_own] at z3
                cases z3
            · exact e6 z
      refine good c fun q hq ds' e' ds ew => ?_
      obtain ⟨_, _, _, e3⟩ := b ds ew
      exact e3 q hq ds' e'
    cases w with
    | val sv =>
      have s' := s.trans (Stp.assign s.rel (show VR K G v sv from a) h1)
      show Stp _ _ _ _ _ (setVs is vs (σ.set i (some v))) _ _ _
      exact setWs_ok s' (rest s') h2
    | own ds =>
      obtain ⟨p, rfl, e4, e6, e7⟩ := a
      obtain ⟨p', z1, z2, _⟩ := b ds rfl
      cases z1
      have s' := Stp.assignN s z2 e4 e6 h1
      show Stp _ _ _ _ _ (setVs is vs (σ.set i (some (V.ref p)))) _ _ _
      exact setWs_ok s' (rest s') h2
def fPar (is : List Nat) (fr : M (List WI)) : MS := fun en => (fr en).bind fun p => (setWs is p.1 p.2).bind fun en2 => some (.next, en2)
theorem WRs.length {G H H0 : Hp} {σ : L2.St} {en : En} {vs : List V} {ws : List WI} (h : WRs K G H H0 σ en vs ws) : vs.length = ws.length := by
  induction h with
  | nil => rfl
  | cons _ _ _ ih => exact congrArg Nat.succ ih
theorem setWs_len : ∀ {is : List Nat} {ws : List WI} {en en' : En}, setWs is ws en = some en' → is.length = ws.length
  | [], [], _, _, _ => rfl
  | _ :: _, [], _, _, h => by cases h
  | [], _ :: _, _, _, h => by cases h
  | i :: is, w :: ws, _, _, h => by
    obtain ⟨en1, _, h2⟩ := Option.bind_eq_some_iff.mp h
    exact congrArg Nat.succ (setWs_len h2)
theorem s_par {ta : List Nat → TA → TS} {is : List Nat} (hp : PS X st (ta is (tW X.K fr))) (w : ∀ D σ H, tW X.K fr σ H (fun vs H1 => vs.length = is.length → D.nx (setVs is vs σ) H1) → ta is (tW X.K fr) D σ H) : PS X st (tS X.K (fPar is fr)) := ps_weak hp fun D σ H ⟨G, en, fl, en', R, hf, k⟩ => by
  obtain ⟨⟨ws, en1⟩, h3, hf⟩ := Option.bind_eq_some_iff.mp hf
  obtain ⟨en2, h4, hf⟩ := Option.bind_eq_some_iff.mp hf
  cases hf
  exact w D σ H ⟨G, en, ws, en1, R, h3, fun vs G' H' s q _ => k _ G' H' (setWs_ok s q h4)⟩
end
end Pf

namespace Pf
open PySem L2

/-- a slot's own thing is written -/
theorem Stp.upd {K : PySem.W.Frag} {G H : Hp} {σ : L2.St} {en : En} {i : Nat} {sv sv' : SV} {a : Addr} {o' : HO} (R : Rel K G H σ en) (he : en[i]? = some (some sv)) (hw : ownB sv = true) (hσ : σ[i]? = some (some (V.ref a))) (hw' : ownB sv' = true)
    (hp : ∀ kvs, sv = .odic true kvs → ∃ kvs', sv' = .odic true kvs') (hs : SR K G (upd H a o') (.ref a) sv') : Stp K σ G H en σ G (L2.upd H a o') (en.set i (some sv')) := by
  have oa : Own σ en a := ⟨i, sv, he, hw, hσ⟩
  obtain ⟨ha, ga⟩ := R.own oa
  have hl : i < en.length := (List.getElem?_eq_some_iff.mp he).1
  have back : ∀ (j : Nat) (s : SV), (en.set i (some sv'))[j]? = some (some s) → ownB s = true → ∃ s0, en[j]? = some (some s0) ∧ ownB s0 = true := fun j s e w => by
    rcases set_get e with ⟨rfl, _⟩ | ⟨_, e⟩
    · exact ⟨sv, he, hw⟩
    · exact ⟨s, e, w⟩
  refine ⟨⟨R.gh.write ga, by rw [List.length_set]; exact R.len, fun j s e => ?_, fun j l s s' v e1 e2 w1 w2 f1 f2 => ?_⟩, Ex.refl G, fun b o hb n => ?_, fun b hb => ?_, fun b hb => .inl hb, fun b ⟨j, s, e, w, f⟩ => .inl ?_, fun j kvs e => ⟨rfl, ?_⟩⟩
  · rcases set_get e with ⟨rfl, q⟩ | ⟨ne, e⟩
    · cases q
      exact ⟨_, hσ, hs⟩
    · obtain ⟨v, hv, hs2⟩ := R.slot j s e
      refine ⟨v, hv, hs2.carry (Ex.refl G) fun b u w ev hb gb => ⟨?_, gb⟩⟩
      rw [upd_ne]
      · exact hb
      · rintro rfl
        subst ev
        exact ne (R.sep j i s sv _ e he w hw hv hσ)
  · obtain ⟨s1, b1, c1⟩ := back j s e1 w1
    obtain ⟨s2, b2, c2⟩ := back l s' e2 w2
    exact R.sep j l s1 s2 v b1 b2 c1 c2 f1 f2
  · rw [upd_ne]
    · exact hb
    · rintro rfl
      exact n oa
  · by_cases z : b = a
    · subst z; rw [upd_same]; exact Option.some_ne_none _
    · rw [upd_ne z]; exact hb
  · obtain ⟨s1, b1, c1⟩ := back j s e w
    exact ⟨j, s1, b1, c1, f⟩
  · by_cases z : i = j
    · subst z
      rw [he] at e
      cases e
      obtain ⟨kv, e2⟩ := hp kvs rfl
      exact ⟨kv, by rw [List.getElem?_set_self hl, e2]⟩
    · exact ⟨kvs, by rw [List.getElem?_set_ne z]; exact e⟩
def olS : Option (Option SV) → Option (List D)
  | some (some (.olst ds)) => some ds
  | _ => none
theorem olS_ok {ds : List D} : ∀ {o : Option (Option SV)}, olS o = some ds → o = some (some (.olst ds))
  | some (some (.olst _)), h => by cases h; rfl
  | some (some (.dat _)), h => by cases h
  | some (some (.rlst _)), h => by cases h
  | some (some (.fdic _)), h => by cases h
  | some (some (.kdic _)), h => by cases h
  | some (some (.odic _ _)), h => by cases h
  | some none, h => by cases h
  | none, h => by cases h
theorem Rel.lst {K : PySem.W.Frag} {G H : Hp} {σ : L2.St} {en : En} {i : Nat} {ds : List D} (R : Rel K G H σ en) (e : olS en[i]? = some ds) : ∃ a vs, σ[i]? = some (some (V.ref a)) ∧ H a = some (.lst vs) ∧ G a = none ∧ DPs K G vs ds := by
  obtain ⟨v, hv, a, vs, rfl, h1, h2, h3⟩ := R.slot i _ (olS_ok e)
  exact ⟨a, vs, hv, h1, h2, h3⟩
theorem Stp.updL {K : PySem.W.Frag} {G H : Hp} {σ : L2.St} {en : En} {i : Nat} {ds ds' : List D} {a : Addr} {vs' : List V} (R : Rel K G H σ en) (e : olS en[i]? = some ds) (hσ : σ[i]? = some (some (V.ref a))) (ga : G a = none) (hd : DPs K G vs' ds') :
    Stp K σ G H en σ G (L2.upd H a (.lst vs')) (en.set i (some (.olst ds'))) :=
  Stp.upd R (olS_ok e) rfl hσ rfl (fun _ z => by cases z) ⟨a, vs', rfl, upd_same, ga, hd⟩
section
variable {X : Cx} {K : PySem.W.Frag} {st : Stmt} {a b e o : Expr} {h : M SV} {pos apos cpos : Pos} {fa fb fk : M Op}
/-- x.append(e) -/
def fApp (i : Nat) (h : M SV) : MS := fun en => (olS en[i]?).bind fun _ => (h en).bind fun p => (datS p.1).bind fun d => (olS p.2[i]?).bind fun ds => if ds.length < lim then some (.next, p.2.set i (some (.olst (ds ++ [d])))) else none
theorem s_app {i : Nat} {t : TE} (hp : PS X st (tDrop t)) (w : ∀ σ H Q, tBM X.K "list" rAppend (tVar i) (tCons (tE X.K h) tNil) σ H Q → t σ H Q) : PS X st (tS X.K (fApp i h)) := ps_weak hp fun D σ H ⟨G, en, fl, en', R, hf, k⟩ => by
  obtain ⟨ds0, e0, hf⟩ := Option.bind_eq_some_iff.mp hf
  obtain ⟨⟨sv, en1⟩, h1, hf⟩ := Option.bind_eq_some_iff.mp hf
  obtain ⟨d, h2, hf⟩ := Option.bind_eq_some_iff.mp hf
  obtain ⟨ds, h3, hf⟩ := Option.bind_eq_some_iff.mp hf
  split at hf
  · rename_i hl
    cases hf
    have z : sv = .dat d := datS_ok h2
    subst z
    obtain ⟨l, vs0, hv, hl0, _, _⟩ := R.lst e0
    refine w _ _ _ ⟨_, hv, .inl ⟨rfl, vs0, .inl (.inl hl0)⟩, G, en, _, en1, R, h1, fun v G1 H1 s1 r => ?_⟩
    obtain ⟨l', vs, hv', hl1, gl, hd⟩ := s1.rel.lst h3
    rw [hv] at hv'
    cases hv'
    exact ⟨l, vs, v, rfl, rfl, hl1, by rw [hd.length]; exact Nat.lt_of_lt_of_le hl line_lim, k σ G1 _ (s1.trans (Stp.updL s1.rel h3 hv gl (hd.append (.cons r .nil))))⟩
  · cases hf
/-- x.extend(a list) -/
def fExt (i : Nat) (h : M SV) : MS := fun en => (olS en[i]?).bind fun _ => (h en).bind fun p => (datS p.1).bind fun d => (lstV d).bind fun es => (olS p.2[i]?).bind fun ds => if ds.length + es.length ≤ lim then some (.next, p.2.set i (some (.olst (ds ++ es)))) else none
theorem s_ext {i : Nat} {t : TE} (hp : PS X st (tDrop t)) (w : ∀ σ H Q, tBM X.K "list" rExtend (tVar i) (tCons (tE X.K h) tNil) σ H Q → t σ H Q) : PS X st (tS X.K (fExt i h)) := ps_weak hp fun D σ H ⟨G, en, fl, en', R, hf, k⟩ => by
  obtain ⟨ds0, e0, hf⟩ := Option.bind_eq_some_iff.mp hf
  obtain ⟨⟨sv, en1⟩, h1, hf⟩ := Option.bind_eq_some_iff.mp hf
  obtain ⟨d, h2, hf⟩ := Option.bind_eq_some_iff.mp hf
  obtain ⟨es, h4, hf⟩ := Option.bind_eq_some_iff.mp hf
  obtain ⟨ds, h3, hf⟩ := Option.bind_eq_some_iff.mp hf
  split at hf
  · rename_i hl
    cases hf
    have z : sv = .dat d := datS_ok h2
    subst z
    have z : d = .list es := lstV_ok h4
    subst z
    obtain ⟨l, vs0, hv, hl0, _, _⟩ := R.lst e0
    refine w _ _ _ ⟨_, hv, .inl ⟨rfl, vs0, .inl (.inl hl0)⟩, G, en, _, en1, R, h1, fun v G1 H1 s1 r => ?_⟩
    obtain ⟨l', vs, hv', hl1, gl, hd⟩ := s1.rel.lst h3
    rw [hv] at hv'
    cases hv'
    cases (show DP X.K G1 v (.list es) from r) with
    | lst g1 g2 =>
      exact ⟨l, _, vs, _, rfl, rfl, hl1, s1.rel.gh.lst g1, by rw [hd.length, g2.length]; exact Nat.le_trans hl line_lim, k σ G1 _ (s1.trans (Stp.updL s1.rel h3 hv gl (hd.append g2)))⟩
  · cases hf
/-- x[k] = e, a slot's own list -/
def fSetI (i : Nat) (fk : M Op) (h : M SV) : MS := fun en => if isSet en[i]? = true then (h en).bind fun p => (datS p.1).bind fun d => (fk p.2).bind fun q => (rs q.1 q.2).bind fun dk => (intV dk).bind fun k => (olS q.2[i]?).bind fun ds => (ixN ds.length k).bind fun j =>
  some (.next, q.2.set i (some (.olst (ds.set j d)))) else none
theorem s_setI {i : Nat} (hp : PS X st (tAsg (tE X.K h) (gSub (tVar i) (tO X.K fk) rSetL))) : PS X st (tS X.K (fSetI i fk h)) := ps_weak hp fun D σ H ⟨G, en, fl, en', R, hf, k⟩ => by
  unfold fSetI at hf
  split at hf
  rotate_left
  · cases hf
  rename_i hset
  obtain ⟨sv0, hsv0⟩ := isSet_ok hset
  obtain ⟨v0, hv0, _⟩ := R.slot i sv0 hsv0
  obtain ⟨⟨sv, en1⟩, h1, hf⟩ := Option.bind_eq_some_iff.mp hf
  obtain ⟨d, h2, hf⟩ := Option.bind_eq_some_iff.mp hf
  obtain ⟨⟨ok, en2⟩, h3, hf⟩ := Option.bind_eq_some_iff.mp hf
  obtain ⟨dk, h4, hf⟩ := Option.bind_eq_some_iff.mp hf
  obtain ⟨kk, h5, hf⟩ := Option.bind_eq_some_iff.mp hf
  obtain ⟨ds, h6, hf⟩ := Option.bind_eq_some_iff.mp hf
  obtain ⟨j, h7, hf⟩ := Option.bind_eq_some_iff.mp hf
  cases hf
  have z : sv = .dat d := datS_ok h2
  subst z
  have z : dk = .int kk := intV_ok h5
  subst z
  refine ⟨G, en, _, en1, R, h1, fun v G1 H1 s1 r => ⟨v0, hv0, G1, en1, ok, en2, s1.rel, h3, fun vk G2 H2 s2 r2 => ?_⟩⟩
  obtain ⟨l, vs, hv', hl1, gl, hd⟩ := s2.rel.lst h6
  rw [hv0] at hv'
  cases hv'
  refine ⟨l, vs, kk, j, rfl, (rs_ok s2.rel r2 h4).int, hl1, by rw [hd.length]; exact h7, k σ G2 _ ((s1.trans s2).trans (Stp.updL s2.rel h6 hv0 gl (hd.set (dp_ex s2.ex _ _ r) j)))⟩
/-- x[k] += e, ints in a slot's own list -/
def rGetL (K : PySem.W.Frag) : V → V → Hp → VK → Prop := fun o i H Q => ∃ p xs k v, o = .ref p ∧ i = .int k ∧ SqL K H p xs ∧ atI xs k = some v ∧ Q v H
theorem get_list : PGet X (rGetL X.K) := by
  intro pins s σ H o i ov iv Q I ro ri h
  obtain ⟨p, xs, k, z, rfl, rfl, hq, he, q⟩ := h
  cases ro
  obtain ⟨t, rfl⟩ := ri
  obtain ⟨its, r, pl, hz⟩ := I.list hq
  obtain ⟨j, h1, h2, h3, h4, h5⟩ := atI_get he
  obtain ⟨w, ew, rw'⟩ := r.get h2
  have hl := r.length
  have hn := line63
  by_cases h0 : 0 ≤ k
  · have hj : k.toNat = j := by
      rw [seqIndex_of h0 h5] at h1
      exact Option.some.inj h1
    exact wpAny_getItem_list pl.isList h0 (by omega) (by rw [hj]; simpa using ew) ⟨z, H, I, rw', q⟩
  · have hj : (k + (its.toArray.size : Int)).toNat = j := by
      rw [seqIndex_neg (by omega) h4] at h1
      rw [List.size_toArray, ← hl]
      exact Option.some.inj h1
    exact wpAny_getItem_list_neg pl.isList (by omega) (by rw [List.size_toArray] <;> omega) (by omega) (by rw [hj]; simpa using ew) ⟨z, H, I, rw', q⟩
def fAugL (i : Nat) (fk : M Op) (fb : M Op) : MS := fun en => (olS en[i]?).bind fun _ => (fk en).bind fun p => (rs p.1 p.2).bind fun dk => (intV dk).bind fun k => (olS p.2[i]?).bind fun ds0 => (atI ds0 k).bind fun d0 => (intV d0).bind fun x =>
  (fb p.2).bind fun q => (rs q.1 q.2).bind fun dv => (intV dv).bind fun y => (olS q.2[i]?).bind fun ds => (ixN ds.length k).bind fun j => some (.next, q.2.set i (some (.olst (ds.set j (.int (x + y))))))
theorem s_augL {i : Nat} (hp : PS X st (tAugS (tVar i) (tO X.K fk) (tO X.K fb) (rGetL X.K) (ipI fun i j => i + j) rSetL)) : PS X st (tS X.K (fAugL i fk fb)) := ps_weak hp fun D σ H ⟨G, en, fl, en', R, hf, k⟩ => by
  obtain ⟨dsa, h0, hf⟩ := Option.bind_eq_some_iff.mp hf
  obtain ⟨⟨ok, en1⟩, h1, hf⟩ := Option.bind_eq_some_iff.mp hf
  obtain ⟨dk, h2, hf⟩ := Option.bind_eq_some_iff.mp hf
  obtain ⟨kk, h3, hf⟩ := Option.bind_eq_some_iff.mp hf
  obtain ⟨ds0, h4, hf⟩ := Option.bind_eq_some_iff.mp hf
  obtain ⟨d0, h5, hf⟩ := Option.bind_eq_some_iff.mp hf
  obtain ⟨x, h6, hf⟩ := Option.bind_eq_some_iff.mp hf
  obtain ⟨⟨ov, en2⟩, h7, hf⟩ := Option.bind_eq_some_iff.mp hf
  obtain ⟨dv, h8, hf⟩ := Option.bind_eq_some_iff.mp hf
  obtain ⟨y, h9, hf⟩ := Option.bind_eq_some_iff.mp hf
  obtain ⟨ds, ha, hf⟩ := Option.bind_eq_some_iff.mp hf
  obtain ⟨j, hb, hf⟩ := Option.bind_eq_some_iff.mp hf
  cases hf
  have z : dk = .int kk := intV_ok h3
  subst z
  have z : d0 = .int x := intV_ok h6
  subst z
  have z : dv = .int y := intV_ok h9
  subst z
  obtain ⟨l, _, hv0, _, _, _⟩ := R.lst h0
  refine ⟨_, hv0, G, en, ok, en1, R, h1, fun vk G1 H1 s1 r1 => ?_⟩
  obtain ⟨l', vs0, hv', hl0, gl0, hd0⟩ := s1.rel.lst h4
  rw [hv0] at hv'
  cases hv'
  obtain ⟨w, hw, rw'⟩ := hd0.at h5
  have ek := (rs_ok s1.rel r1 h2).int
  refine ⟨l, vs0, kk, w, rfl, ek, SqL.of hl0, hw, G1, en1, ov, en2, s1.rel, h7, fun vv G2 H2 s2 r2 => ?_⟩
  obtain ⟨l', vs, hv', hl1, gl, hd⟩ := s2.rel.lst ha
  rw [hv0] at hv'
  cases hv'
  cases rw'
  refine ⟨x, y, rfl, (rs_ok s2.rel r2 h8).int, l, vs, kk, j, rfl, ek, hl1, by rw [hd.length]; exact hb, k σ G2 _ ((s1.trans s2).trans (Stp.updL s2.rel ha hv0 gl (hd.set (.int _) j)))⟩
/-- x += e, ints in a slot -/
def inS : Option (Option SV) → Option Int
  | some (some (.dat (.int i))) => some i
  | _ => none
theorem inS_ok {i : Int} {o : Option (Option SV)} (h : inS o = some i) : o = some (some (.dat (.int i))) := by
  unfold inS at h
  split at h
  · cases h; rfl
  · cases h
def fAugI (i : Nat) (f : Int → Int → Int) (fb : M Op) : MS := fun en => (inS en[i]?).bind fun x => (fb en).bind fun q => (rs q.1 q.2).bind fun dv => (intV dv).bind fun y => (setS i (.dat (.int (f x y))) q.2).bind fun en2 => some (.next, en2)
theorem s_augI {i : Nat} {f : Int → Int → Int} (hp : PS X st (tAug i (tO X.K fb) (ipI f))) : PS X st (tS X.K (fAugI i f fb)) := ps_weak hp fun D σ H ⟨G, en, fl, en', R, hf, k⟩ => by
  obtain ⟨x, h0, hf⟩ := Option.bind_eq_some_iff.mp hf
  obtain ⟨⟨ov, en1⟩, h1, hf⟩ := Option.bind_eq_some_iff.mp hf
  obtain ⟨dv, h2, hf⟩ := Option.bind_eq_some_iff.mp hf
  obtain ⟨y, h3, hf⟩ := Option.bind_eq_some_iff.mp hf
  obtain ⟨en2, h4, hf⟩ := Option.bind_eq_some_iff.mp hf
  cases hf
  have z : dv = .int y := intV_ok h3
  subst z
  obtain ⟨v, hv, r⟩ := R.slot i _ (inS_ok h0)
  cases (show DP X.K G v (.int x) from r)
  refine ⟨_, hv, G, en, ov, en1, R, h1, fun vv G1 H1 s1 r1 => ⟨x, y, rfl, (rs_ok s1.rel r1 h2).int, ?_⟩⟩
  exact k _ G1 H1 (s1.trans (Stp.assign s1.rel (show VR X.K G1 (.int (f x y)) (.dat (.int (f x y))) from .int _) h4))

/-! #### dicts -/
def keyD : D → Option Key
  | .int i => some (.inl i)
  | .str s => some (.inr s)
  | _ => none
def lookD (kvs : List (Key × D)) (k : Key) : Option D := (kvs.find? fun kv => decide (kv.1 = k)).map (·.2)
def putD (kvs : List (Key × D)) (k : Key) (v : D) : List (Key × D) := if (kvs.any fun kv => decide (kv.1 = k)) = true then kvs.map (fun kv => if kv.1 = k then (kv.1, v) else kv) else kvs ++ [(k, v)]
theorem keyD_ok {K : PySem.W.Frag} {G H : Hp} {v : V} {d : D} {k : Key} (h : VD K G H v d) (e : keyD d = some k) : v = kV k := by
  unfold keyD at e
  split at e
  · cases e; exact h.int
  · cases e; exact h.str
  · cases e
theorem KD.look {G : Hp} {k : Key} {d : D} : ∀ {ks : List (Key × V)} {kvs : List (Key × D)}, KD K G ks kvs → lookD kvs k = some d → ∃ v, valV ks k = some v ∧ DP K G v d
  | [], _, .nil, e => by cases e
  | p :: ks, q :: kvs, .cons r t, e => by
    by_cases z : q.1 = k
    · have e' : lookD (q :: kvs) k = some q.2 := by simp [lookD, List.find?_cons, z]
      rw [e'] at e
      cases e
      exact ⟨p.2, valV_pos (r.1.trans z), r.2⟩
    · have e' : lookD (q :: kvs) k = lookD kvs k := by simp [lookD, List.find?_cons, z]
      rw [e'] at e
      obtain ⟨v, h1, h2⟩ := KD.look t e
      exact ⟨v, (valV_neg fun w => z (r.1 ▸ w)).trans h1, h2⟩
theorem KD.any {G : Hp} {k : Key} {ks : List (Key × V)} {kvs : List (Key × D)} (h : KD K G ks kvs) : (ks.any fun kv => decide (kv.1 = k)) = kvs.any fun kv => decide (kv.1 = k) := by
  unfold KD at h
  induction h with
  | nil => rfl
  | cons r t ih => rw [List.any_cons, List.any_cons, ih, r.1]
theorem KD.mapP {G : Hp} {k : Key} {v : V} {d : D} {ks : List (Key × V)} {kvs : List (Key × D)} (h : KD K G ks kvs) (r : DP K G v d) : KD K G (ks.map (fun kv => if kv.1 = k then (kv.1, v) else kv)) (kvs.map (fun kv => if kv.1 = k then (kv.1, d) else kv)) := by
  unfold KD at h
  induction h with
  | nil => exact .nil
  | @cons p q ps qs e t ih =>
    rw [List.map_cons, List.map_cons]
    refine .cons ?_ ih
    by_cases z : p.1 = k
    · rw [if_pos z, if_pos (e.1 ▸ z)]; exact ⟨e.1, r⟩
    · rw [if_neg z, if_neg (fun w => z (e.1.trans w))]; exact e
theorem KD.app {G : Hp} {ks ls : List (Key × V)} {kvs lvs : List (Key × D)} (h : KD K G ks kvs) (g : KD K G ls lvs) : KD K G (ks ++ ls) (kvs ++ lvs) := by
  unfold KD at h
  induction h with
  | nil => exact g
  | cons e t ih => exact .cons e ih
theorem KD.put {G : Hp} {k : Key} {v : V} {d : D} {ks : List (Key × V)} {kvs : List (Key × D)} (h : KD K G ks kvs) (r : DP K G v d) : KD K G (putK ks k v) (putD kvs k d) := by
  unfold putK putD
  rw [h.any]
  split
  · exact h.mapP r
  · exact h.app (.cons ⟨rfl, r⟩ .nil)
theorem KD.length {G : Hp} {ks : List (Key × V)} {kvs : List (Key × D)} (h : KD K G ks kvs) : ks.length = kvs.length := Paired.length h
/-- the dict at an operand -/
def rsD : Op → En → Option (List (Key × D))
  | .slot i, en => match en[i]? with
    | some (some (.odic _ kvs)) => some kvs
    | some (some (.fdic kvs)) => some kvs
    | some (some (.kdic kvs)) => some kvs
    | _ => none
  | .val (.fdic kvs), _ => some kvs
  | .val (.kdic kvs), _ => some kvs
  | _, _ => none
theorem rsD_ok {G H : Hp} {σ : L2.St} {en : En} {v : V} {kvs : List (Key × D)} (R : Rel K G H σ en) {o : Op} (h : OR K G σ v o) (e : rsD o en = some kvs) : ∃ a ks, v = .ref a ∧ Rd H a (.dK ks) ∧ KD K G ks kvs := by
  unfold rsD at e
  split at e
  · split at e
    · rename_i p kvs' q
      cases e
      obtain ⟨w, hw, a, ks, e1, e2, e3, e4⟩ := R.slot _ _ q
      rw [show σ[_]? = some (some v) from h] at hw
      cases hw
      exact ⟨a, ks, e1, .inl e2, e4⟩
    · rename_i kvs' q
      cases e
      obtain ⟨w, hw, a, ks, e1, e2, e4⟩ := R.slot _ _ q
      rw [show σ[_]? = some (some v) from h] at hw
      cases hw
      exact ⟨a, ks, e1, R.gh.rd (.inl e2), e4⟩
    · rename_i kvs' q
      cases e
      obtain ⟨w, hw, a, ob, ks, e1, e2, e4⟩ := R.slot _ _ q
      rw [show σ[_]? = some (some v) from h] at hw
      cases hw
      exact ⟨a, ks, e1, R.gh.rd (.inr ⟨ob, e2⟩), e4⟩
    · cases e
  · cases e
    obtain ⟨a, ks, e1, e2, e4⟩ := h
    exact ⟨a, ks, e1, R.gh.rd (.inl e2), e4⟩
  · cases e
    obtain ⟨a, ob, ks, e1, e2, e4⟩ := h
    exact ⟨a, ks, e1, R.gh.rd (.inr ⟨ob, e2⟩), e4⟩
  · cases e
def fAtD (fa fb : M Op) : M SV := fun en => (fa en).bind fun p => (fb p.2).bind fun q => (rsD p.1 q.2).bind fun kvs => (rs q.1 q.2).bind fun d2 => (keyD d2).bind fun k => (lookD kvs k).bind fun d => some (.dat d, q.2)
theorem s_atD (hu : X.A.units + 1 < cLine) (ha : PE X a (tO X.K fa)) (hb : PE X b (tO X.K fb)) (hs : NoSl b) : PE X (.Subscript a b pos) (tE X.K (fAtD fa fb)) := pe_weak (pe_dget hu ha hb hs) fun σ H Q ⟨G, en, sv, en', R, hf, k⟩ => by
  obtain ⟨⟨o1, en1⟩, h1, hf⟩ := Option.bind_eq_some_iff.mp hf
  obtain ⟨⟨o2, en2⟩, h2, hf⟩ := Option.bind_eq_some_iff.mp hf
  obtain ⟨kvs, e1, hf⟩ := Option.bind_eq_some_iff.mp hf
  obtain ⟨d2, e2, hf⟩ := Option.bind_eq_some_iff.mp hf
  obtain ⟨kk, e3, hf⟩ := Option.bind_eq_some_iff.mp hf
  obtain ⟨d, e4, hf⟩ := Option.bind_eq_some_iff.mp hf
  cases hf
  refine ⟨G, en, o1, en1, R, h1, fun v1 G1 H1 s1 q1 => ⟨G1, en1, o2, _, s1.rel, h2, fun v2 G2 H2 s2 q2 => ?_⟩⟩
  obtain ⟨l, ks, rfl, hr, hk⟩ := rsD_ok s2.rel (q1.ex s2.ex) e1
  obtain ⟨v, hv, r⟩ := hk.look e4
  exact ⟨l, v, rfl, .inl ⟨ks, kk, hr, keyD_ok (rs_ok s2.rel q2 e2) e3, hv.symm⟩, k v G2 H2 (s1.trans s2) r⟩
/-- a slot's own dict -/
theorem Rel.dic {G H : Hp} {σ : L2.St} {en : En} {i : Nat} {q : Bool × List (Key × D)} (R : Rel K G H σ en) (e : odS en[i]? = some q) : ∃ a ks, σ[i]? = some (some (V.ref a)) ∧ H a = some (.dK ks) ∧ G a = none ∧ KD K G ks q.2 := by
  obtain ⟨v, hv, a, vs, rfl, h1, h2, h3⟩ := R.slot i _ (odS_ok e)
  exact ⟨a, vs, hv, h1, h2, h3⟩
theorem Stp.updD {G H : Hp} {σ : L2.St} {en : En} {i : Nat} {q : Bool × List (Key × D)} {kvs' : List (Key × D)} {a : Addr} {ks' : List (Key × V)} (R : Rel K G H σ en) (e : odS en[i]? = some q) (hσ : σ[i]? = some (some (V.ref a))) (ga : G a = none) (hd : KD K G ks' kvs') :
    Stp K σ G H en σ G (L2.upd H a (.dK ks')) (en.set i (some (.odic q.1 kvs'))) :=
  Stp.upd R (odS_ok e) rfl hσ rfl (fun _ z => by injection z with z1 _; exact ⟨kvs', by rw [z1]⟩) ⟨a, ks', rfl, upd_same, ga, hd⟩
/-- d[k] = e -/
def fPutD (i : Nat) (fk : M Op) (h : M SV) : MS := fun en => if isSet en[i]? = true then (h en).bind fun p => (datS p.1).bind fun d => (fk p.2).bind fun q => (rs q.1 q.2).bind fun dk => (keyD dk).bind fun k => (odS q.2[i]?).bind fun od => if od.2.length < lim then
  some (.next, q.2.set i (some (.odic od.1 (putD od.2 k d)))) else none else none
theorem s_putD {i : Nat} (hp : PS X st (sDPut (tVar i) (tO X.K fk) (tE X.K h))) : PS X st (tS X.K (fPutD i fk h)) := ps_weak hp fun D σ H ⟨G, en, fl, en', R, hf, k⟩ => by
  unfold fPutD at hf
  split at hf
  rotate_left
  · cases hf
  rename_i hset
  obtain ⟨sv0, hsv0⟩ := isSet_ok hset
  obtain ⟨v0, hv0, _⟩ := R.slot i sv0 hsv0
  obtain ⟨⟨sv, en1⟩, h1, hf⟩ := Option.bind_eq_some_iff.mp hf
  obtain ⟨d, h2, hf⟩ := Option.bind_eq_some_iff.mp hf
  obtain ⟨⟨ok, en2⟩, h3, hf⟩ := Option.bind_eq_some_iff.mp hf
  obtain ⟨dk, h4, hf⟩ := Option.bind_eq_some_iff.mp hf
  obtain ⟨kk, h5, hf⟩ := Option.bind_eq_some_iff.mp hf
  obtain ⟨od, h6, hf⟩ := Option.bind_eq_some_iff.mp hf
  split at hf
  rotate_left
  · cases hf
  rename_i hl
  cases hf
  have z : sv = .dat d := datS_ok h2
  subst z
  refine ⟨G, en, _, en1, R, h1, fun v G1 H1 s1 r => ⟨v0, hv0, G1, en1, ok, en2, s1.rel, h3, fun vk G2 H2 s2 r2 => ?_⟩⟩
  obtain ⟨l, ks, hv', hl1, gl, hd⟩ := s2.rel.dic h6
  rw [hv0] at hv'
  cases hv'
  refine ⟨l, _, rfl, .inl ⟨ks, kk, hl1, keyD_ok (rs_ok s2.rel r2 h4) h5, by rw [hd.length]; exact Nat.lt_of_lt_of_le hl line_lim, rfl⟩, k σ G2 _ ((s1.trans s2).trans (Stp.updD s2.rel h6 hv0 gl (hd.put (dp_ex s2.ex _ _ r))))⟩
/-- d[k] += e, ints -/
def fAugD (i : Nat) (fk : M Op) (fb : M Op) : MS := fun en => (odS en[i]?).bind fun _ => (fk en).bind fun p => (rs p.1 p.2).bind fun dk => (keyD dk).bind fun k => (odS p.2[i]?).bind fun ds0 => (lookD ds0.2 k).bind fun d0 => (intV d0).bind fun x =>
  (fb p.2).bind fun q => (rs q.1 q.2).bind fun dv => (intV dv).bind fun y => (odS q.2[i]?).bind fun od => if od.2.length < lim then some (.next, q.2.set i (some (.odic od.1 (putD od.2 k (.int (x + y)))))) else none
theorem s_augD {i : Nat} (hp : PS X st (sDAug (tVar i) (tO X.K fk) (tO X.K fb) rAdd)) : PS X st (tS X.K (fAugD i fk fb)) := ps_weak hp fun D σ H ⟨G, en, fl, en', R, hf, k⟩ => by
  obtain ⟨dsa, h0, hf⟩ := Option.bind_eq_some_iff.mp hf
  obtain ⟨⟨ok, en1⟩, h1, hf⟩ := Option.bind_eq_some_iff.mp hf
  obtain ⟨dk, h2, hf⟩ := Option.bind_eq_some_iff.mp hf
  obtain ⟨kk, h3, hf⟩ := Option.bind_eq_some_iff.mp hf
  obtain ⟨ds0, h4, hf⟩ := Option.bind_eq_some_iff.mp hf
  obtain ⟨d0, h5, hf⟩ := Option.bind_eq_some_iff.mp hf
  obtain ⟨x, h6, hf⟩ := Option.bind_eq_some_iff.mp hf
  obtain ⟨⟨ov, en2⟩, h7, hf⟩ := Option.bind_eq_some_iff.mp hf
  obtain ⟨dv, h8, hf⟩ := Option.bind_eq_some_iff.mp hf
  obtain ⟨y, h9, hf⟩ := Option.bind_eq_some_iff.mp hf
  obtain ⟨od, ha, hf⟩ := Option.bind_eq_some_iff.mp hf
  split at hf
  rotate_left
  · cases hf
  rename_i hl
  cases hf
  have z : d0 = .int x := intV_ok h6
  subst z
  have z : dv = .int y := intV_ok h9
  subst z
  obtain ⟨l, _, hv0, _, _, _⟩ := R.dic h0
  refine ⟨_, hv0, G, en, ok, en1, R, h1, fun vk G1 H1 s1 r1 => ?_⟩
  obtain ⟨l', ks0, hv', hl0, gl0, hd0⟩ := s1.rel.dic h4
  rw [hv0] at hv'
  cases hv'
  obtain ⟨w, hw, rw'⟩ := hd0.look h5
  have ek := keyD_ok (rs_ok s1.rel r1 h2) h3
  refine ⟨l, w, rfl, .inl ⟨ks0, kk, .inl hl0, ek, hw.symm⟩, G1, en1, ov, en2, s1.rel, h7, fun vv G2 H2 s2 r2 => ?_⟩
  obtain ⟨l', ks, hv', hl1, gl, hd⟩ := s2.rel.dic ha
  rw [hv0] at hv'
  cases hv'
  cases rw'
  exact ⟨x, y, rfl, (rs_ok s2.rel r2 h8).int, _, .inl ⟨ks, kk, hl1, ek, by rw [hd.length]; exact Nat.lt_of_lt_of_le hl line_lim, rfl⟩, k σ G2 _ ((s1.trans s2).trans (Stp.updD s2.rel ha hv0 gl (hd.put (.int _))))⟩
end
end Pf

namespace Pf
open PySem L2

/-! #### new dicts -/
def tDn (K : PySem.W.Frag) (f : M (List (Key × D))) : TE := fun σ H Q => ∃ G en kvs en', Rel K G H σ en ∧ f en = some (kvs, en') ∧
  ∀ p ks G' H', Stp K σ G H en σ G' H' en' → H p = none → H' p = some (.dK ks) → G' p = none → ¬ Own σ en' p → KD K G' ks kvs → Q (.ref p) H'
def fPairs : List (Key × M SV) → M (List (Key × D))
  | [] => fun en => some ([], en)
  | q :: r => fun en => (q.2 en).bind fun p => (datS p.1).bind fun d => (fPairs r p.2).bind fun z => some ((q.1, d) :: z.1, z.2)
def mergeD (kvs more : List (Key × D)) : List (Key × D) := more.foldl (fun acc kv => putD acc kv.1 kv.2) kvs
def fDict (l : List (Key × M SV)) : M (List (Key × D)) := fun en => (fPairs l en).bind fun p => some (mergeD [] p.1, p.2)
section
variable {X : Cx} {K : PySem.W.Frag} {st : Stmt} {sts : List Stmt} {a b e : Expr} {h : M SV} {pos : Pos} {fa fb : M Op}
theorem KD.merge {G : Hp} : ∀ {more : List (Key × V)} {moreD : List (Key × D)} {ks : List (Key × V)} {kvs : List (Key × D)}, KD K G more moreD → KD K G ks kvs → KD K G (mergeK ks more) (mergeD kvs moreD)
  | [], _, _, _, .nil, h => h
  | p :: ps, q :: qs, ks, kvs, .cons r t, h => by
    show KD K G (mergeK (putK ks p.1 p.2) ps) (mergeD (putD kvs q.1 q.2) qs)
    rw [r.1]
    exact KD.merge t (h.put r.2)
theorem pairs_read : ∀ (l : List (Key × M SV)) (σ : L2.St) (H : Hp) (Q : List (V × V) → Hp → Prop), (∃ G en kvs en', Rel K G H σ en ∧ fPairs l en = some (kvs, en') ∧ ∀ ks G' H', Stp K σ G H en σ G' H' en' → KD K G' ks kvs → Q (ks.map fun kv => (kV kv.1, kv.2)) H') →
    tPairs (l.map fun q => (tC (kV q.1), tE K q.2)) σ H Q
  | [], σ, H, Q, ⟨G, en, kvs, en', R, hf, k⟩ => by
    cases hf
    exact k [] G H (Stp.refl R) .nil
  | q :: r, σ, H, Q, ⟨G, en, kvs, en', R, hf, k⟩ => by
    obtain ⟨⟨sv, en1⟩, h1, hf⟩ := Option.bind_eq_some_iff.mp hf
    obtain ⟨d, h2, hf⟩ := Option.bind_eq_some_iff.mp hf
    obtain ⟨⟨z, en2⟩, h3, hf⟩ := Option.bind_eq_some_iff.mp hf
    cases hf
    have z1 : sv = .dat d := datS_ok h2
    subst z1
    refine ⟨G, en, _, en1, R, h1, fun v G1 H1 s1 rv => pairs_read r σ H1 _ ⟨G1, en1, z, _, s1.rel, h3, fun ks G2 H2 s2 hk => ?_⟩⟩
    exact k ((q.1, v) :: ks) G2 H2 (s1.trans s2) (.cons ⟨rfl, dp_ex s2.ex _ _ rv⟩ hk)
theorem mkeys (l : List (Key × M SV)) (en en' : En) (kvs : List (Key × D)) (h : fPairs l en = some (kvs, en')) : kvs.length = l.length := by
  induction l generalizing en kvs with
  | nil => cases h; rfl
  | cons q r ih =>
    obtain ⟨⟨sv, en1⟩, h1, hf⟩ := Option.bind_eq_some_iff.mp h
    obtain ⟨d, h2, hf⟩ := Option.bind_eq_some_iff.mp hf
    obtain ⟨⟨z, en2⟩, h3, hf⟩ := Option.bind_eq_some_iff.mp hf
    cases hf
    exact congrArg Nat.succ (ih en1 z h3)
/-- a write at a new place that no slot has -/
theorem Stp.writeNew {σ σ' : L2.St} {G H G' H' : Hp} {en en' : En} (s : Stp K σ G H en σ' G' H' en') {p : Addr} {o : HO} (h0 : H p = none) (g : G' p = none) (no : ¬ Own σ' en' p) : Stp K σ G H en σ' G' (L2.upd H' p o) en' where
  rel := ⟨s.rel.gh.write g, s.rel.len, fun i sv e => by
    obtain ⟨v, hv, hs⟩ := s.rel.slot i sv e
    refine ⟨v, hv, hs.carry (Ex.refl _) fun a u w ev ha ga => ⟨?_, ga⟩⟩
    rw [upd_ne]
    · exact ha
    · rintro rfl
      subst ev
      exact no ⟨i, sv, e, w, hv⟩, s.rel.sep⟩
  ex := s.ex
  frame := fun b u hb n => by
    rw [upd_ne (ne_of_none hb h0)]
    exact s.frame b u hb n
  live := fun b hb => by
    by_cases z : b = p
    · subst z; rw [upd_same]; exact Option.some_ne_none _
    · rw [upd_ne z]; exact s.live b hb
  fresh := s.fresh
  sub := s.sub
  prot := s.prot
theorem dict_read (l : List (Key × M SV)) (hl : l.length ≤ 15) : ∀ σ H Q, tDn K (fDict l) σ H Q → tDisp (l.map fun q => (tC (kV q.1), tE K q.2)) σ H Q := fun σ H Q ⟨G, en, kvs, en', R, hf, k⟩ => by
  obtain ⟨⟨more, en1⟩, h1, hf⟩ := Option.bind_eq_some_iff.mp hf
  cases hf
  intro p hp
  have s0 := (Pst.lay R.gh (o := .dK []) hp).stp R
  refine pairs_read l σ _ _ ⟨G, en, more, _, s0.rel, h1, fun ks G1 H1 s1 hk => ?_⟩
  obtain ⟨hp1, gp1, no1⟩ := s1.keepL (show upd H p (.dK []) p = some (.dK []) from upd_same) (R.gh.free hp) fun z => (R.own z).1 hp
  refine ⟨hp1, ks, rfl, by rw [hk.length, mkeys l _ _ _ h1]; exact hl, ?_⟩
  exact k p _ G1 _ ((s0.trans s1).writeNew hp gp1 no1) hp upd_same gp1 no1 (hk.merge .nil)
def fFreshD (f : M (List (Key × D))) : M SV := fun en => (f en).bind fun p => some (.fdic p.1, p.2)
theorem s_freshD {f : M (List (Key × D))} {t : TE} (ha : PE X a t) (w : ∀ σ H Q, tDn X.K f σ H Q → t σ H Q) : PE X a (tE X.K (fFreshD f)) := pe_weak ha fun σ H Q ⟨G, en, sv, en', R, hf, k⟩ => by
  obtain ⟨⟨ds, en1⟩, h1, hf⟩ := Option.bind_eq_some_iff.mp hf
  cases hf
  exact w _ _ _ ⟨G, en, ds, _, R, h1, fun p vs G' H' s1 h0 hp gp no hd => k _ _ _ (s1.freezeNew h0 hp gp no) ⟨p, vs, rfl, upd_same, hd.ex (Ex.new gp)⟩⟩
/-- dict(d) -/
def fCopyD (fa : M Op) : M (List (Key × D)) := fun en => (fa en).bind fun p => (rsD p.1 p.2).bind fun kvs => some (kvs, p.2)
theorem s_copyD {x : Str} {p : Pos} (hx : x = "dict") (hg : Gl X x) (hm : X.mg x = none) (ha : PE X a (tO X.K fa)) (hs : starEach [a] X.env = (false, eval a X.env) :: starEach [] X.env) : PE X (.Call (.Name x p) [a] [] pos) (tDn X.K (fCopyD fa)) := by
  subst hx
  refine pe_weak (pe_callTy call_dictD hg hm (by decide +kernel) (pa_cons ha pa_nil hs) (by decide) (by decide) hs) fun σ H Q ⟨G, en, sv, en', R, hf, k⟩ => ?_
  obtain ⟨⟨o1, en1⟩, h1, hf⟩ := Option.bind_eq_some_iff.mp hf
  obtain ⟨kvs, e1, hf⟩ := Option.bind_eq_some_iff.mp hf
  cases hf
  refine ⟨G, en, o1, _, R, h1, fun v1 G1 H1 s1 q1 => ?_⟩
  obtain ⟨l, ks, rfl, hr, hk⟩ := rsD_ok s1.rel q1 e1
  refine ⟨l, ks, rfl, hr, fun p hp => ?_⟩
  have ps : Pst G1 H1 G1 (upd H1 p (.dK ks)) := Pst.lay s1.rel.gh hp
  exact k p ks G1 _ (s1.trans (ps.stp s1.rel)) (free_of_live s1 hp) upd_same (s1.rel.gh.free hp) (fun z => (s1.rel.own z).1 hp) hk
def fAsgD (i : Nat) (f : M (List (Key × D))) : MS := fun en => (f en).bind fun p => (setS i (.odic false p.1) p.2).bind fun en2 => some (.next, en2)
theorem s_asgD {i : Nat} {t : TE} {f : M (List (Key × D))} (hp : PS X st (tAsg t (gName i))) (w : ∀ σ H Q, tDn X.K f σ H Q → t σ H Q) : PS X st (tS X.K (fAsgD i f)) := ps_weak hp fun D σ H ⟨G, en, fl, en', R, hf, k⟩ => by
  obtain ⟨⟨ds, en1⟩, h3, hf⟩ := Option.bind_eq_some_iff.mp hf
  obtain ⟨en2, h4, hf⟩ := Option.bind_eq_some_iff.mp hf
  cases hf
  exact w _ _ _ ⟨G, en, ds, en1, R, h3, fun p vs G' H' s h0 hp gp no hd => k _ G' H' (Stp.assignN (sv := .odic false ds) s h0 ⟨p, vs, rfl, hp, gp, hd⟩ no h4)⟩

/-! #### loops -/
def aftL (g : MS) (r : Fl × En) : Option (Fl × En) := match r.1 with
  | .next => g r.2
  | .cont => g r.2
  | .brk => some (.next, r.2)
  | .ret d => some (.ret d, r.2)
def loopF (bd : D → En → Option En) (body : MS) : List D → MS
  | [] => fun en => some (.next, en)
  | d :: ds => fun en => (bd d en).bind fun en1 => (body en1).bind (aftL (loopF bd body ds))
def fFor (it : M (List D)) (bd : D → En → Option En) (body : MS) : MS := fun en => (it en).bind fun p => loopF bd body p.1 p.2
theorem for_read {w : Bool} {it : M (List D)} {bd : D → En → Option En} {body : MS} {is : List Nat} : ∀ D σ H, tS K (fFor it bd body) D σ H → tFor (tI K w it) (tG K w is bd) (tS K body) D σ H := fun D σ H ⟨G, en, fl, en', R, hf, k⟩ => by
  obtain ⟨⟨ds, en1⟩, h1, hf⟩ := Option.bind_eq_some_iff.mp hf
  refine ⟨G, en, ds, en1, R, h1, fun J G1 H1 s1 ok => ?_⟩
  refine ⟨fun i m σc Hc => m = ds.length - i ∧ i ≤ ds.length ∧ ∃ Gc enc, Stp K σ G H en σc Gc Hc enc ∧ Ex G1 Gc ∧ loopF bd body (ds.drop i) enc = some (fl, en'), ⟨ds.length, rfl, Nat.zero_le _, G1, en1, s1, Ex.refl _, hf⟩, ?_⟩
  rintro i m σc Hc ⟨rfl, hi, Gc, enc, sc, ex1, hloop⟩
  obtain ⟨okI, okE⟩ := ok Gc Hc ex1 sc.rel.gh i
  by_cases hlt : i < ds.length
  · obtain ⟨go, yl⟩ := okI ds[i] (List.getElem?_eq_getElem hlt)
    rw [List.drop_eq_getElem_cons hlt] at hloop
    obtain ⟨en2, hb, hloop⟩ := Option.bind_eq_some_iff.mp hloop
    obtain ⟨⟨f1, en3⟩, hbody, hloop⟩ := Option.bind_eq_some_iff.mp hloop
    refine .inr ⟨go, fun σ' H' => ds.length - (i + 1) = ds.length - (i + 1) ∧ i + 1 ≤ ds.length ∧ ∃ Gc enc, Stp K σ G H en σ' Gc H' enc ∧ Ex G1 Gc ∧ loopF bd body (ds.drop (i + 1)) enc = some (fl, en'), fun σ' H' w => ⟨_, by omega, w⟩, fun x H' y => ?_⟩
    obtain ⟨G3, ps, dx⟩ := yl x H' y
    have s2 := sc.trans (ps.stp sc.rel)
    refine ⟨G3, enc, _, en2, s2.rel, dx, hb, fun σ2 G4 H4 s3 _ _ => ⟨G4, en2, f1, en3, s3.rel, hbody, fun σ5 G5 H5 s4 => ?_⟩⟩
    have sa := s2.trans (s3.trans s4)
    have exa := ex1.trans (ps.ex.trans (s3.ex.trans s4.ex))
    cases f1 with
    | next => exact ⟨rfl, by omega, G5, en3, sa, exa, hloop⟩
    | cont => exact ⟨rfl, by omega, G5, en3, sa, exa, hloop⟩
    | brk => cases hloop; exact k σ5 G5 H5 sa
    | ret d => cases hloop; exact k σ5 G5 H5 sa
  · have e : i = ds.length := by omega
    subst e
    rw [List.drop_length] at hloop
    cases hloop
    exact .inl ⟨okE (Nat.le_refl _), k σc Gc Hc sc⟩
theorem s_for {w : Bool} {tg iter : Expr} {it : M (List D)} {bd : D → En → Option En} {body : MS} {is : List Nat} (hp : PassesOwn (model X.prog X.w) X.A X.env X.xe) (hc : X.calm = true) (hi : PI X tg iter (tI X.K w it)) (hg : PG X tg (tG X.K w is bd)) (hb : PSs X sts (tS X.K body))
    (hs : ∀ x, foldedSetIterable iter X.env x = pure x) : PS X (.For tg iter sts [] pos) (tS X.K (fFor it bd body)) := ps_weak (ps_for hp hc hi hg hb hs) for_read
def loopW (c : M Bool) (body : MS) : Nat → MS
  | 0 => fun _ => none
  | n + 1 => fun en => (c en).bind fun p => if p.1 = true then (body p.2).bind (aftL (loopW c body n)) else some (.next, p.2)
theorem s_while {t : Expr} {c : M Bool} {body : MS} {n : Nat} (hp : PassesOwn (model X.prog X.w) X.A X.env X.xe) (ht : PT X t (tT X.K c)) (hb : PSs X sts (tS X.K body)) : PS X (.While t sts [] pos) (tS X.K (loopW c body n)) :=
  ps_weak (ps_while hp ht hb) fun D σ H ⟨G, en, fl, en', R, hf, k⟩ => by
    refine ⟨fun m σc Hc => ∃ Gc enc, Stp X.K σ G H en σc Gc Hc enc ∧ loopW c body m enc = some (fl, en'), ⟨n, G, en, Stp.refl R, hf⟩, ?_⟩
    rintro m σc Hc ⟨Gc, enc, sc, hloop⟩
    cases m with
    | zero => cases hloop
    | succ m =>
      obtain ⟨⟨b, en1⟩, h1, hloop⟩ := Option.bind_eq_some_iff.mp hloop
      refine ⟨Gc, enc, b, en1, sc.rel, h1, fun G1 H1 s1 => ?_⟩
      cases b with
      | false => cases hloop; exact iteF (k σc G1 H1 (sc.trans s1))
      | true =>
        refine iteT ⟨fun σ' H' => ∃ Gc enc, Stp X.K σ G H en σ' Gc H' enc ∧ loopW c body m enc = some (fl, en'), fun σ' H' w => ⟨m, Nat.lt_succ_self m, w⟩, ?_⟩
        rw [if_pos rfl] at hloop
        obtain ⟨⟨f1, en3⟩, hbody, hloop⟩ := Option.bind_eq_some_iff.mp hloop
        refine ⟨G1, en1, f1, en3, s1.rel, hbody, fun σ5 G5 H5 s4 => ?_⟩
        have sa := sc.trans (s1.trans s4)
        cases f1 with
        | next => exact ⟨G5, en3, sa, hloop⟩
        | cont => exact ⟨G5, en3, sa, hloop⟩
        | brk => cases hloop; exact k σ5 G5 H5 sa
        | ret d => cases hloop; exact k σ5 G5 H5 sa
end

/-! ### a def's function -/
def outs : List SV → En → Option (List SV)
  | [], _ => some []
  | s :: r, o :: e => (match s with
    | .odic true _ => (match o with
      | some (.odic true kvs) => some (SV.odic true kvs)
      | _ => none)
    | s => if ownB s = true then none else some s).bind fun s' => (outs r e).bind fun r' => some (s' :: r')
  | _ :: _, [] => none
def endV : Fl → Option D
  | .ret d => some d
  | .next => some .none
  | _ => none
def fBody (np ns : Nat) (body : MS) : Fnc := fun args => if args.length = np then (body (args.map some ++ List.replicate (ns - np) none)).bind fun r => (endV r.1).bind fun d => (outs args r.2).bind fun o => some (d, o) else none
theorem outs_ok : ∀ {svs : List SV} {en : En} {o : List SV}, outs svs en = some o → o.length = svs.length ∧ ∀ (i : Nat) (s' : SV), o[i]? = some s' → (∃ kvs kvs', svs[i]? = some (.odic true kvs) ∧ s' = .odic true kvs' ∧ en[i]? = some (some (.odic true kvs'))) ∨ (svs[i]? = some s' ∧ ownB s' = false)
  | [], _, _, h => by cases h; exact ⟨rfl, fun i s' e => by simp at e⟩
  | _ :: _, [], _, h => by cases h
  | s :: r, q :: e, o, h => by
    obtain ⟨s1, h1, h⟩ := Option.bind_eq_some_iff.mp h
    obtain ⟨r1, h2, h⟩ := Option.bind_eq_some_iff.mp h
    cases h
    obtain ⟨l, f⟩ := outs_ok h2
    refine ⟨congrArg Nat.succ l, fun i s' hi => ?_⟩
    cases i with
    | zero =>
      have hi : s1 = s' := Option.some.inj hi
      subst hi
      split at h1
      · rename_i kvs
        split at h1
        · rename_i kvs'
          cases h1
          exact .inl ⟨kvs, kvs', rfl, rfl, rfl⟩
        · cases h1
      · split at h1
        · cases h1
        · rename_i hn
          cases h1
          exact .inr ⟨rfl, by simpa using hn⟩
    | succ i => exact f i s' hi
section
variable {K : PySem.W.Frag}
theorem map_some {α : Type} {l : List α} {i : Nat} {x : α} (h : (l.map some)[i]? = some (some x)) : l[i]? = some x := by
  rw [List.getElem?_map] at h
  obtain ⟨y, h1, h2⟩ := Option.map_eq_some_iff.mp h
  cases h2
  exact h1
theorem some_map {α : Type} {l : List α} {i : Nat} {x : α} (h : l[i]? = some x) : (l.map some)[i]? = some (some x) := by rw [List.getElem?_map, h]; rfl
theorem pad_get {α : Type} {l : List α} {n i : Nat} {x : α} (h : (l.map some ++ List.replicate n none)[i]? = some (some x)) : l[i]? = some x := by
  by_cases hi : i < (l.map some).length
  · rw [List.getElem?_append_left hi] at h
    exact map_some h
  · rw [List.getElem?_append_right (by omega), List.getElem?_replicate] at h
    split at h <;> cases h
theorem get_pad {α : Type} {l : List α} {n i : Nat} {x : α} (h : l[i]? = some x) : (l.map some ++ List.replicate n none)[i]? = some (some x) := by
  have hi : i < (l.map some).length := by rw [List.length_map]; exact (List.getElem?_eq_some_iff.mp h).1
  rw [List.getElem?_append_left hi]
  exact some_map h
theorem own_pad {vs : List V} {svs : List SV} {n m : Nat} {b : Addr} (h : Own (vs.map some ++ List.replicate n none) (svs.map some ++ List.replicate m none) b) : Own (vs.map some) (svs.map some) b := by
  obtain ⟨i, s, e, w, f⟩ := h
  exact ⟨i, s, some_map (pad_get e), w, some_map (pad_get f)⟩
theorem Rel.pad {G H : Hp} {vs : List V} {svs : List SV} (R : Rel K G H (vs.map some) (svs.map some)) (n : Nat) : Rel K G H (vs.map some ++ List.replicate n none) (svs.map some ++ List.replicate n none) where
  gh := R.gh
  len := by rw [List.length_append, List.length_append, R.len, List.length_replicate, List.length_replicate]
  slot := fun i sv e => by
    obtain ⟨v, hv, hs⟩ := R.slot i sv (some_map (pad_get e))
    exact ⟨v, get_pad (map_some hv), hs⟩
  sep := fun i j s s' v e1 e2 w1 w2 f1 f2 => R.sep i j s s' v (some_map (pad_get e1)) (some_map (pad_get e2)) w1 w2 (some_map (pad_get f1)) (some_map (pad_get f2))
theorem outs_stp {G H G' H' : Hp} {vs : List V} {svs svs' : List SV} {n : Nat} {σ' : L2.St} {en' : En} (R : Rel K G H (vs.map some) (svs.map some)) (s : Stp K (vs.map some ++ List.replicate n none) G H (svs.map some ++ List.replicate n none) σ' G' H' en')
    (h : outs svs en' = some svs') : Stp K (vs.map some) G H (svs.map some) (vs.map some) G' H' (svs'.map some) := by
  obtain ⟨hl, ho⟩ := outs_ok h
  -- what the i-th of the ends is
  have one : ∀ (i : Nat) (s' : SV), (svs'.map some)[i]? = some (some s') → (∃ kvs, (svs.map some)[i]? = some (some (SV.odic true kvs)) ∧ en'[i]? = some (some s') ∧ σ'[i]? = (vs.map some ++ List.replicate n none)[i]?) ∨ ((svs.map some)[i]? = some (some s') ∧ ownB s' = false) := fun i s' e => by
    rcases ho i s' (map_some e) with ⟨kvs, kvs', e1, rfl, e2⟩ | ⟨e1, e2⟩
    · exact .inl ⟨kvs, some_map e1, e2, (s.prot i kvs (get_pad e1)).1⟩
    · exact .inr ⟨some_map e1, e2⟩
  have slotv : ∀ (i : Nat) (v : V), (vs.map some ++ List.replicate n none)[i]? = some (some v) → (vs.map some)[i]? = some (some v) := fun i v e => some_map (pad_get e)
  refine ⟨⟨s.rel.gh, by rw [List.length_map, hl, ← R.len, List.length_map], fun i s' e => ?_, fun i j s1 s2 v e1 e2 w1 w2 f1 f2 => ?_⟩, s.ex, fun b o hb no => s.frame b o hb fun z => no (own_pad z), s.live, fun b hb => ?_, fun b ⟨i, s', e, w, f⟩ => .inl ?_, fun i kvs e => ⟨rfl, ?_⟩⟩
  · rcases one i s' e with ⟨kvs, e1, e2, e3⟩ | ⟨e1, e2⟩
    · obtain ⟨v, hv, hs⟩ := s.rel.slot i s' e2
      rw [e3] at hv
      exact ⟨v, slotv i v hv, hs⟩
    · obtain ⟨v, hv, hs⟩ := R.slot i s' e1
      exact ⟨v, hv, ((hs.vr e2).ex s.ex).sr⟩
  · rcases one i s1 e1 with ⟨k1, a1, b1, c1⟩ | ⟨_, a1⟩
    · rcases one j s2 e2 with ⟨k2, a2, b2, c2⟩ | ⟨_, a2⟩
      · exact R.sep i j _ _ v a1 a2 rfl rfl f1 f2
      · rw [a2] at w2; cases w2
    · rw [a1] at w1; cases w1
  · rcases s.fresh b hb with z | z | z
    · exact .inl z
    · exact .inr (.inl z)
    · exact .inr (.inr (own_pad z))
  · rcases one i s' e with ⟨k1, a1, b1, c1⟩ | ⟨_, a1⟩
    · exact ⟨i, _, a1, rfl, f⟩
    · rw [a1] at w; cases w
  · obtain ⟨_, kv, e2⟩ := s.prot i kvs (get_pad (map_some e))
    have hi : i < svs'.length := by rw [hl]; exact (List.getElem?_eq_some_iff.mp (map_some e)).1
    rcases one i svs'[i] (some_map (List.getElem?_eq_getElem hi)) with ⟨k1, a1, b1, c1⟩ | ⟨a1, a2⟩
    · rw [e2] at b1
      refine ⟨kv, ?_⟩
      rw [some_map (List.getElem?_eq_getElem hi)]
      have b1 : some (SV.odic true kv) = some svs'[i] := Option.some.inj b1
      rw [b1]
    · rw [e] at a1
      have a1 : some (SV.odic true kvs) = some svs'[i] := Option.some.inj a1
      rw [← Option.some.inj a1] at a2
      cases a2
end
/-- a def keeps its promise, by its body -/
theorem fn_body {P : Program} {w : World} {K : PySem.W.Frag} {mg : Str → Option Value} {base : Heap} {x qual : Str} {st : Stmt} {f : Addr} {fd : FuncData} {N ps : List Str} {k : Nat} {body : MS} (F : Fun K x qual st f fd) (S : FnScope N ps (defScope st))
    (hb : ∀ X : Cx, X.prog = P → X.w = w → X.K = K → X.mg = mg → X.base = base → X.N = N → X.env.scope = defScope st → X.calm = true → (∀ y, X.fn y = true) → Room k X.A → X.xe = (fun _ _ => False) → PSs X (defBody st) (tS X.K body)) :
    FnOk P w K mg base CX0 (k + 1) f fd ps (spD K (fBody ps.length N.length body) ps.length) := by
  refine F.ok S (fun vs H Q E h => h.1) (fun cdv A outer s H vs Q E hr h => ?_)
  obtain ⟨hn, G, svs, d, svs', R, hc, kk⟩ := h
  refine ⟨tS K body, hb _ rfl rfl rfl rfl rfl rfl rfl rfl (fun _ => rfl) hr rfl, ?_⟩
  have hsl : svs.length = vs.length := by have := R.len; rw [List.length_map, List.length_map] at this; exact this
  unfold fBody at hc
  split at hc
  rotate_left
  · cases hc
  rename_i hnp
  obtain ⟨⟨fl, en'⟩, h1, hc⟩ := Option.bind_eq_some_iff.mp hc
  obtain ⟨d', h2, hc⟩ := Option.bind_eq_some_iff.mp hc
  obtain ⟨o, h3, hc⟩ := Option.bind_eq_some_iff.mp hc
  cases hc
  have est : L2.start N vs = vs.map some ++ List.replicate (N.length - ps.length) none := by unfold L2.start; rw [hn]
  rw [est]
  refine ⟨G, _, fl, en', R.pad _, h1, fun σ' G' H' s => ?_⟩
  have s' := outs_stp R s h3
  cases fl with
  | ret d => cases h2; exact fun v r => kk v G' H' s' r
  | next => cases h2; exact kk .non G' H' s' .non
  | brk => cases h2
  | cont => cases h2
end Pf

namespace Pf
open PySem L2

/-! ### further expressions -/
section
variable {X : Cx} {K : PySem.W.Frag} {a b e o : Expr} {pos apos cpos : Pos} {fa fb : M Op}
/-- two readings of one expression -/
def fAlt (f g : M SV) : M SV := fun en => match f en with
  | some r => some r
  | none => g en
theorem s_alt {f g : M SV} (h1 : PE X e (tE X.K f)) (h2 : PE X e (tE X.K g)) : PE X e (tE X.K (fAlt f g)) := ⟨fun pins s σ H Q I ⟨G, en, sv, en', R, hf, k⟩ => by
  unfold fAlt at hf
  split at hf
  · rename_i r hr
    cases hf
    exact h1.run pins s σ H Q I ⟨G, en, sv, en', R, hr, k⟩
  · exact h2.run pins s σ H Q I ⟨G, en, sv, en', R, hf, k⟩⟩
/-- x.count(k), whole numbers in a list, in a tuple -/
def cntD (d k : D) : Option D := (seqV d).bind fun ds => (intsOf ds).bind fun ns => (intV k).bind fun i => some (.int (ns.count i : Nat))
def fCnt (fa fb : M Op) : M SV := fun en => (fa en).bind fun p => (rs p.1 p.2).bind fun d0 => (seqV d0).bind fun _ => (fb p.2).bind fun q => (rs p.1 q.2).bind fun d1 => (rs q.1 q.2).bind fun d2 => (cntD d1 d2).bind fun d => if (isLst d0 == isLst d1) = true then some (.dat d, q.2) else none
where isLst : D → Bool
  | .list _ => true
  | _ => false
theorem vals_ints {G : Hp} {vs : List V} : ∀ {ns : List Int}, DPs K G vs (ns.map PyData.int) → vs = ns.map V.int
  | [], h => by cases h; rfl
  | n :: ns, h => by
    cases h with
    | cons r t => cases r; rw [vals_ints t]; rfl
theorem mt_tcount : MtR X "tuple.count" (fun x xs H Q => ∃ (p : Addr) (ns : List Int) (k : Int), x = .ref p ∧ xs = [.int k] ∧ SqT X.K H p (ns.map V.int) ∧ Q (.int (ns.count k : Nat)) H) := fun pins s σ H x xs v us Q I rx rxs h => by
  obtain ⟨p, ns, k, e1, e2, hs, q⟩ := h
  subst e1 e2
  cases rx
  obtain ⟨u, rfl, t, rfl⟩ := rxs.one
  obtain ⟨its, rv, ⟨ob, ho, hc, n, hd⟩, _⟩ := I.tuple hs
  cases ob with
  | mk cls dd data sl =>
    simp only at hc hd
    subst hc hd
    have hi := ints_of_vals rv
    refine call_meets PySem.F.slot_tuple_count ⟨_, ho, rfl⟩ PySem.F.entry_tuple_count (PySem.F.args_tuple_count_2 _ _) (SeqAt.tuple_countAt p its.toArray n dd sl (.int k t) (eqk k)) ⟨ho, fun y hy => (eqk_gives hi y (by simpa using hy)).at _ _, ?_⟩
    refine ⟨.int (ns.count k : Nat), H, I.tok _, ⟨s.toks, ?_⟩, q⟩
    have ec : its.toArray.toList.countP (eqk k) = ns.count k := eqk_count hi
    rw [ec]
theorem VD.tupX {G H : Hp} {v : V} {ds : List D} (h : VD K G H v (.tuple ds)) : ∃ a vs, v = .ref a ∧ TupX K G a vs := by
  rcases h with h | ⟨a, vs, ds', e1, e, _⟩
  · cases h with
    | tup h1 _ => exact ⟨_, _, rfl, h1⟩
  · cases e
theorem tupX_gh {G H : Hp} {a : Addr} {xs : List V} (g : GH G H) (h : TupX K G a xs) : TupX K H a xs := h.elim (fun ⟨its, z⟩ => .inl ⟨its, (g _ _ z).elim id fun ⟨_, _, e, _⟩ => by cases e⟩) .inr
theorem s_cnt (ha : PE X o (tO X.K fa)) (hb : PE X e (tO X.K fb)) (hbase : attributeBase o "count" X.env (eval o X.env) = eval o X.env)
    (hfew : ((backTo cpos (starEach [e] X.env)).all (fun x => !x.1) && (backToKw cpos (keywordEach [] X.env)).all (fun x => x.1.isSome) && decide (([e] : List Expr).length + ([] : List Keyword).length + (if ([] : List Keyword).isEmpty then 0 else 1) < 30)) = true)
    (hline : (apos.endLine == cpos.line) = true) (hs : starEach [e] X.env = (false, eval e X.env) :: starEach [] X.env) : PE X (.Call (.Attribute o "count" apos) [e] [] cpos) (tE X.K (fCnt fa fb)) := ⟨fun pins s σ H Q I ⟨G, en, sv, en', R, hf, k⟩ => by
  obtain ⟨⟨o1, en1⟩, h1, hf⟩ := Option.bind_eq_some_iff.mp hf
  obtain ⟨d0, h2, hf⟩ := Option.bind_eq_some_iff.mp hf
  obtain ⟨ds0, h3, hf⟩ := Option.bind_eq_some_iff.mp hf
  obtain ⟨⟨o2, en2⟩, h4, hf⟩ := Option.bind_eq_some_iff.mp hf
  obtain ⟨d1, h5, hf⟩ := Option.bind_eq_some_iff.mp hf
  obtain ⟨d2, h6, hf⟩ := Option.bind_eq_some_iff.mp hf
  obtain ⟨d, h7, hf⟩ := Option.bind_eq_some_iff.mp hf
  split at hf
  rotate_left
  · cases hf
  rename_i hsame
  cases hf
  obtain ⟨ds1, h8, h7⟩ := Option.bind_eq_some_iff.mp h7
  obtain ⟨ns, h9, h7⟩ := Option.bind_eq_some_iff.mp h7
  obtain ⟨i, h10, h7⟩ := Option.bind_eq_some_iff.mp h7
  cases h7
  have z := intV_ok h10
  subst z
  have z := intsOf_eq h9
  subst z
  refine wpAny_Call_method_late hbase hfew hline rfl (thn (ha.run pins s σ H (fun x H1 => ∃ G1, Stp X.K σ G H en σ G1 H1 en1 ∧ OR X.K G1 σ x o1) I ⟨G, en, o1, en1, R, h1, fun v1 G1 H1 s1 q1 => ⟨G1, s1, q1⟩⟩) fun v s1 ⟨x, H1, I1, r1, G1, st1, q1⟩ => ?_)
  have w0 := rs_ok st1.rel q1 h2
  have arg : wpAny (model X.prog X.w) X.A (spliced (backTo cpos (starEach [e] X.env))) (fun us s' => ∃ u H2 G2 w, us = [u] ∧ Inv X pins σ H2 s' ∧ RelV w u ∧ Stp X.K σ G1 H1 en1 σ G2 H2 en2 ∧ OR X.K G2 σ w o2) X.xe s1 := by
    refine thn ((pa_cons hb pa_nil hs).run cpos pins s1 σ H1 (fun vs H2 => ∃ G2 w, vs = [w] ∧ Stp X.K σ G1 H1 en1 σ G2 H2 en2 ∧ OR X.K G2 σ w o2) I1 ⟨G1, en1, o2, en2, st1.rel, h4, fun v2 G2 H2 s2 q2 => ⟨G2, v2, rfl, s2, q2⟩⟩) fun us s' ⟨vs, H2, I2, rv, G2, w, e, s2, q2⟩ => ?_
    subst e
    obtain ⟨u, e, ru⟩ := rv.one
    exact ⟨u, H2, G2, w, e, I2, ru, s2, q2⟩
  rw [hs] at arg ⊢
  rcases seqV_ok h3 with z | z
  · subst z
    obtain ⟨l, vs, rfl, hl, _⟩ := w0.lst st1.rel.gh
    obtain ⟨t1, t2⟩ := tyV_is (T := "list") I1 r1 (.inl ⟨rfl, vs, SqL.of hl⟩)
    refine ⟨"list", "list.count", PySem.F.plainAttrs_list, PySem.F.slot_list_count, PySem.F.type_list_count, t1, t2, ?_⟩
    refine Calls.callWith_builtin (by rfl) (Calls.evalArgs_plain (thn arg fun us s' ⟨u, H2, G2, w, e, I2, ru, s2, q2⟩ => ?_))
    subst e
    have w1 := rs_ok s2.rel (q1.ex s2.ex) h5
    have w2 := rs_ok s2.rel q2 h6
    have e2 := w2.int
    subst e2
    rcases seqV_ok h8 with z | z
    · subst z
      obtain ⟨l', vs', e3, hl', hd⟩ := w1.lst s2.rel.gh
      cases e3
      have e4 := vals_ints hd
      subst e4
      exact mt_lcount pins s' σ H2 _ _ v [u] Q I2 r1 (.cons ru .nil) ⟨l, ns, i, rfl, rfl, SqL.of hl', k _ G2 H2 (st1.trans s2) (.int _)⟩
    · subst z
      cases hsame
  · subst z
    obtain ⟨l, vs, rfl, hx⟩ := w0.tupX
    obtain ⟨ob, g1, g2, g3, _⟩ := (tupX_gh st1.rel.gh hx).bare I1
    cases r1
    refine ⟨"tuple", "tuple.count", PySem.F.plainAttrs_tuple, PySem.F.slot_tuple_count, PySem.F.type_tuple_count, ⟨ob, g1, g2⟩, fun c z => by cases z; exact ⟨ob, g1, g3⟩, ?_⟩
    refine Calls.callWith_builtin (by rfl) (Calls.evalArgs_plain (thn arg fun us s' ⟨u, H2, G2, w, e, I2, ru, s2, q2⟩ => ?_))
    subst e
    have w1 := rs_ok s2.rel (q1.ex s2.ex) h5
    have w2 := rs_ok s2.rel q2 h6
    have e2 := w2.int
    subst e2
    rcases seqV_ok h8 with z | z
    · subst z
      cases hsame
    · subst z
      obtain ⟨l', vs', e3, hl', hd, _⟩ := w1.tup
      cases e3
      have e4 := vals_ints hd
      subst e4
      exact mt_tcount pins s' σ H2 (V.ref l) _ _ [u] Q I2 (show RelV (V.ref l) (Value.ref l) from rfl) (.cons ru .nil) ⟨l, ns, i, rfl, rfl, seqT_gh s2.rel.gh hl', k _ G2 H2 (st1.trans s2) (.int _)⟩⟩
/-! #### list(range(..)) -/
theorem rgV_dps {G : Hp} {lo hi : Int} : DPs K G (rgV lo hi) (rngD lo (hi - lo).toNat) := by
  unfold rgV rngD
  generalize List.range (hi - lo).toNat = l
  induction l with
  | nil => exact .nil
  | cons x l ih => exact .cons (.int _) ih
def fOfR1 (fa : M Op) : M (List D) := fun en => (fa en).bind fun p => (rs p.1 p.2).bind fun d => (intV d).bind fun j => if j ≤ 1000000 ∧ -1000000 ≤ j then some (rngD 0 j.toNat, p.2) else none
theorem s_ofR1 {x y : Str} {p p2 : Pos} (hc : X.calm = true) (hx : x = "list") (hg : Gl X x) (hm : X.mg x = none) (hy : y = "range") (hg2 : Gl X y) (hm2 : X.mg y = none) (ha : PE X a (tO X.K fa)) (na : starEach [a] X.env = (false, eval a X.env) :: starEach [] X.env) : PE X (.Call (.Name x p) [.Call (.Name y p2) [a] [] pos] [] cpos) (tN X.K (fOfR1 fa)) := by
  subst hx hy
  refine pe_weak (pe_listRg hc hg hm (prg_1 hg2 hm2 ha na) rfl) fun σ H Q ⟨G, en, sv, en', R, hf, k⟩ => ?_
  obtain ⟨⟨o1, en1⟩, h1, hf⟩ := Option.bind_eq_some_iff.mp hf
  obtain ⟨d, h2, hf⟩ := Option.bind_eq_some_iff.mp hf
  obtain ⟨j, h3, hf⟩ := Option.bind_eq_some_iff.mp hf
  split at hf
  rotate_left
  · cases hf
  rename_i hl
  cases hf
  have z := intV_ok h3
  subst z
  refine ⟨G, en, o1, en1, R, h1, fun v1 G1 H1 s1 q1 => ⟨j, (rs_ok s1.rel q1 h2).int, ⟨by omega, by omega, by omega, by omega, by omega⟩, fun q hq => ?_⟩⟩
  have e : j.toNat = (j - 0).toNat := by omega
  rw [e] at k
  exact new_at s1 hq rgV_dps k
def fOfR2 (fa fb : M Op) : M (List D) := fun en => (fa en).bind fun p => (fb p.2).bind fun q => (rs p.1 q.2).bind fun d => (rs q.1 q.2).bind fun d' => (intV d).bind fun i => (intV d').bind fun j => if i ≤ 1000000 ∧ -1000000 ≤ i ∧ j ≤ 1000000 ∧ -1000000 ≤ j then some (rngD i (j - i).toNat, q.2) else none
theorem s_ofR2 {x y : Str} {p p2 : Pos} (hc : X.calm = true) (hx : x = "list") (hg : Gl X x) (hm : X.mg x = none) (hy : y = "range") (hg2 : Gl X y) (hm2 : X.mg y = none) (ha : PE X a (tO X.K fa)) (hb : PE X b (tO X.K fb)) (na : starEach [a, b] X.env = (false, eval a X.env) :: starEach [b] X.env)
    (nb : starEach [b] X.env = (false, eval b X.env) :: starEach [] X.env) (hp : (backTo pos (starEach [b] X.env)).any (·.1) = false) : PE X (.Call (.Name x p) [.Call (.Name y p2) [a, b] [] pos] [] cpos) (tN X.K (fOfR2 fa fb)) := by
  subst hx hy
  refine pe_weak (pe_listRg hc hg hm (prg_2 hg2 hm2 ha hb na nb hp) rfl) fun σ H Q ⟨G, en, sv, en', R, hf, k⟩ => ?_
  obtain ⟨⟨o1, en1⟩, h1, hf⟩ := Option.bind_eq_some_iff.mp hf
  obtain ⟨⟨o2, en2⟩, h2, hf⟩ := Option.bind_eq_some_iff.mp hf
  obtain ⟨d, h3, hf⟩ := Option.bind_eq_some_iff.mp hf
  obtain ⟨d', h4, hf⟩ := Option.bind_eq_some_iff.mp hf
  obtain ⟨i, h5, hf⟩ := Option.bind_eq_some_iff.mp hf
  obtain ⟨j, h6, hf⟩ := Option.bind_eq_some_iff.mp hf
  split at hf
  rotate_left
  · cases hf
  rename_i hl
  cases hf
  have z := intV_ok h5
  subst z
  have z := intV_ok h6
  subst z
  refine ⟨G, en, o1, en1, R, h1, fun v1 G1 H1 s1 q1 => ⟨G1, en1, o2, _, s1.rel, h2, fun v2 G2 H2 s2 q2 => ?_⟩⟩
  exact ⟨i, j, (rs_ok s2.rel (q1.ex s2.ex) h3).int, (rs_ok s2.rel q2 h4).int, ⟨by omega, by omega, by omega, by omega, by omega⟩, fun q hq => new_at (s1.trans s2) hq rgV_dps k⟩
end
end Pf

set_option maxHeartbeats 4000000
namespace Pf
open PySem L2

/-! #### dict(pairs), a walk over its keys -/
section
variable {X : Cx}
/-- dict(xs) of a list of pairs: the exact object -/
theorem callX_dictP (hcalm : X.calm = true) : CallR X (.type "dict") (fun xs H Q => ∃ (a : Addr) (ps : List Addr) (kvs : List (Key × V)), xs = [.ref a] ∧ SqL X.K H a (ps.map V.ref) ∧ Paired (fun p kv => SqT X.K H p [kV kv.1, kv.2]) ps kvs ∧
    ∀ p o, H p = none → Q (.ref p) (upd H p (.frz o (.dK (mergeK [] kvs))))) := by
  intro pins s σ H xs us Q I r q
  obtain ⟨a, ps, kvs, ex, hq, hp, q⟩ := q
  subst ex
  obtain ⟨u, eu, rx⟩ := vals1 r
  subst eu
  cases rx
  obtain ⟨its, rv, pl, hz⟩ := I.list hq
  have ei := refs_at rv
  subst ei
  rw [List.length_map] at hz
  obtain ⟨prs, rel, hl, hpr⟩ := pairs_of I hp
  obtain ⟨o, n, ho, hc, hd, hdat⟩ := pl
  refine call_dict_pairs (prs := prs) (I.ok.hd hcalm) ho hc hd hdat (by simp [hl]) (by rw [hl]; exact hz) (fun j q' e => ?_) fun h' tk hd' k => ?_
  · obtain ⟨b, u, e1, e2, e3⟩ := hpr j q' e
    exact ⟨b, u, by simp [e1], e2, e3⟩
  · have hm : (s.heap.objs.size == sysModules) = false := beq_eq_false_iff_ne.mpr (Nat.ne_of_gt I.big)
    have hlen : (mergeK [] kvs).length ≤ sizeLine := by
      refine Nat.le_trans (length_mergeK kvs []) ?_
      rw [List.length_nil, Nat.zero_add, rel.length, hl]
      exact hz
    obtain ⟨ob, hob⟩ : ∃ ob, h'.get? s.heap.objs.size = some ob := by
      obtain ⟨ob, _, _, e, _⟩ := hd'
      exact ⟨ob, e⟩
    exact ⟨.ref s.heap.objs.size, upd H s.heap.objs.size (.frz ob (.dK (mergeK [] kvs))), I.laid (t' := tk) k (Nat.le_refl _) (show ObjOk X.prog X.w _ _ _ (.frz ob (.dK (mergeK [] kvs))) from ⟨hob, hlen, hm, merged [] prs, KV.merge rel .nil, hd'⟩), rfl, q _ ob (I.hok.fresh (Nat.le_refl _))⟩
end
def pairD : D → Option (Key × D)
  | .tuple [k, d] => (keyD k).map fun q => (q, d)
  | _ => none
def pairsD : List D → Option (List (Key × D))
  | [] => some []
  | d :: ds => (pairD d).bind fun q => (pairsD ds).bind fun r => some (q :: r)
def fDictOf (fa : M Op) : M SV := fun en => (fa en).bind fun p => (rs p.1 p.2).bind fun d1 => (lstV d1).bind fun ds => (pairsD ds).bind fun kvs => some (.kdic (mergeD [] kvs), p.2)
def kD : Key → D
  | .inl i => .int i
  | .inr s => .str s
def fKeys (i : Nat) : M (List D) := fun en => match en[i]? with
  | some (some (.kdic kvs)) => some (kvs.map fun kv => kD kv.1, en)
  | _ => none
section
variable {X : Cx} {K : PySem.W.Frag} {a e tg : Expr} {fa : M Op} {pos : Pos}
theorem pairs_dps {G H : Hp} (g : GH G H) : ∀ {ds : List D} {vs : List V} {kvs : List (Key × D)}, DPs K G vs ds → pairsD ds = some kvs → ∃ (ps : List Addr) (ks : List (Key × V)), vs = ps.map V.ref ∧ Paired (fun p kv => SqT K H p [kV kv.1, kv.2]) ps ks ∧ KD K G ks kvs
  | [], _, _, .nil, h => by
    cases h
    exact ⟨[], [], rfl, .nil, .nil⟩
  | d :: ds, _, _, .cons r t, h => by
    obtain ⟨q, h1, h⟩ := Option.bind_eq_some_iff.mp h
    obtain ⟨z, h2, h⟩ := Option.bind_eq_some_iff.mp h
    cases h
    obtain ⟨ps, ks, e, hp, hk⟩ := pairs_dps g t h2
    unfold pairD at h1
    split at h1
    rotate_left
    · cases h1
    rename_i k x
    obtain ⟨kk, h3, h4⟩ := Option.map_eq_some_iff.mp h1
    cases h4
    cases r with
    | @tup l _ _ g1 g2 =>
      cases g2 with
      | @cons u _ _ _ r1 t1 =>
        cases t1 with
        | @cons y _ _ _ r2 t2 =>
          cases t2
          have eu : u = kV kk := keyD_ok (G := G) (H := H) (.inl r1) h3
          subst eu
          exact ⟨l :: ps, (kk, y) :: ks, by rw [e]; rfl, .cons (seqT_gh g g1.sq) hp, .cons ⟨rfl, r2⟩ hk⟩
theorem s_dictOf {x : Str} {p : Pos} (hc : X.calm = true) (hx : x = "dict") (hg : Gl X x) (hm : X.mg x = none) (ha : PE X a (tO X.K fa)) (hs : starEach [a] X.env = (false, eval a X.env) :: starEach [] X.env) : PE X (.Call (.Name x p) [a] [] pos) (tE X.K (fDictOf fa)) := by
  subst hx
  refine pe_weak (pe_callTy (callX_dictP hc) hg hm (by decide +kernel) (pa_cons ha pa_nil hs) (by decide) (by decide) hs) fun σ H Q ⟨G, en, sv, en', R, hf, k⟩ => ?_
  obtain ⟨⟨o1, en1⟩, h1, hf⟩ := Option.bind_eq_some_iff.mp hf
  obtain ⟨d1, e1, hf⟩ := Option.bind_eq_some_iff.mp hf
  obtain ⟨ds, e2, hf⟩ := Option.bind_eq_some_iff.mp hf
  obtain ⟨kvs, e3, hf⟩ := Option.bind_eq_some_iff.mp hf
  cases hf
  refine ⟨G, en, o1, _, R, h1, fun v1 G1 H1 s1 q1 => ?_⟩
  have z := lstV_ok e2
  subst z
  obtain ⟨l, vs, rfl, hl1, hd1⟩ := (rs_ok s1.rel q1 e1).lst s1.rel.gh
  obtain ⟨ps, ks, rfl, hp, hk⟩ := pairs_dps s1.rel.gh hd1 e3
  refine ⟨l, ps, ks, rfl, SqL.of hl1, hp, fun p o hpn => ?_⟩
  have pst : Pst G1 H1 (upd G1 p (.frz o (.dK (mergeK [] ks)))) (upd H1 p (.frz o (.dK (mergeK [] ks)))) := Pst.new s1.rel.gh hpn
  exact k _ _ _ (s1.trans (pst.stp s1.rel)) ⟨p, o, _, rfl, upd_same, (hk.merge .nil).ex pst.ex⟩
theorem kD_ok {G : Hp} (k : Key) : DP K G (kV k) (kD k) := by
  cases k with
  | inl i => exact .int i
  | inr s => exact .str s
theorem it_keys {d : Addr} {o : Obj} {ks : List (Key × V)} {kvs : List (Key × D)} {G : Hp} (h : G d = some (.frz o (.dK ks))) (hd : KD K G ks kvs) : ItOk K false (Itk d o ks) G (kvs.map fun kv => kD kv.1) := fun G2 H2 ex gh i => by
  have hh : H2 d = some (.frz o (.dK ks)) := by
    rcases gh _ _ (ex _ _ h) with z | ⟨_, _, q, _⟩
    · exact z
    · cases q
  have hl := hd.length
  refine ⟨fun x e => ?_, fun n => ⟨hh, by rw [List.length_map] at n; omega⟩⟩
  rw [List.getElem?_map] at e
  obtain ⟨⟨k, y⟩, e1, e2⟩ := Option.map_eq_some_iff.mp e
  subst e2
  obtain ⟨hi, _⟩ := List.getElem?_eq_some_iff.mp e1
  refine ⟨⟨hh, by omega⟩, fun x H3 yl => ?_⟩
  obtain ⟨rfl, k', v', e3, rfl⟩ := yl
  have hk : k' = k := by
    have : ∀ {ks : List (Key × V)} {kvs : List (Key × D)} {i : Nat}, KD K G ks kvs → ks[i]? = some (k', v') → kvs[i]? = some (k, y) → k' = k := by
      intro ks kvs i hd
      induction hd generalizing i with
      | nil => intro e; simp at e
      | cons r t ih =>
        intro e1 e2
        cases i with
        | zero => cases e1; cases e2; exact r.1
        | succ i => exact ih (by simpa using e1) (by simpa using e2)
    exact this hd e3 e1
  subst hk
  exact ⟨G2, Pst.refl gh, .inl (kD_ok _)⟩
theorem s_keys {i : Nat} (he : PE X e (tVar i)) : PI X tg e (tI X.K false (fKeys i)) := ⟨fun pins s σ H R I ⟨G, en, ds, en', RR, hf, k⟩ => by
  unfold fKeys at hf
  split at hf
  rotate_left
  · cases hf
  rename_i kvs q
  cases hf
  obtain ⟨v, hv, a, o, ks, rfl, g, hk⟩ := RR.slot _ _ q
  have hh : H a = some (.frz o (.dK ks)) := by
    rcases RR.gh _ _ g with z | ⟨_, _, q, _⟩
    · exact z
    · cases q
  exact (pi_keys (tg := tg) he).run pins s σ H R I ⟨_, hv, a, o, rfl, .inl ⟨ks, hh, k _ G H (Stp.refl RR) (it_keys g hk)⟩⟩⟩
end
end Pf

set_option maxHeartbeats 4000000
namespace Pf
open PySem PySem.Spec PyProof.Rows L2

/-! #### t[::-1] -/
section
variable {prog : Program} {w : World} {A : Around} {E : Value → Shared → Prop} {s : Shared}
theorem rev_pick (xs : Array Value) : ((List.range xs.size).filterMap fun (m : Nat) => xs[(((xs.size : Int) - 1) + (m : Int) * (-1)).toNat]?).toArray = xs.toList.reverse.toArray := by
  have e : ((List.range xs.size).filterMap fun (m : Nat) => xs[(((xs.size : Int) - 1) + (m : Int) * (-1)).toNat]?) = ((List.range xs.size).map fun k => xs.size - 1 - k).filterMap (xs[·]?) := by
    rw [List.filterMap_map]
    congr 1
    funext m
    show xs[_]? = xs[xs.size - 1 - m]?
    congr 1
    omega
  rw [e, PySem.W.krv_range, List.filterMap_reverse, PySem.W.krv_all]
theorem places_rev (n : Nat) : Builtin.Slice.slicePlaces ((n : Int) - 1) (-1) (-1) = n := by
  unfold Builtin.Slice.slicePlaces
  rw [if_neg (by decide)]
  by_cases h : (n : Int) - 1 > -1
  · rw [if_pos h]
    show (((n : Int) - 1 - -1 - 1) / (1 : Int) + 1).toNat = n
    rw [Int.ediv_one]
    omega
  · rw [if_neg h]
    show (0 : Int).toNat = n
    omega
theorem getItem_tuple_rev {t sl : Addr} {items : Array Value} {vs : Value} {Q : Value → Shared → Prop} (ht : IsTup s.heap t items) (hs : s.heap.IsSliceOf sl .none .none vs) (ps : IsPart vs (some (-1)))
    (h : Q (.ref s.heap.objs.size) { s with heap := s.heap.push { cls := .type "tuple", data := .seq items.toList.reverse.toArray } })
    (hsz : items.size ≤ sizeLine) : wpAny (model prog w) A (getItem (.ref t) (.ref sl)) Q E s := by
  have htake : sizeOk (.seq items.toList.reverse.toArray) := by
    show items.toList.reverse.toArray.size ≤ sizeLine
    rw [List.size_toArray, List.length_reverse, Array.length_toList]
    exact hsz
  obtain ⟨os, hos, hcs, hds⟩ := id hs
  have hTs : s.TypeIs (.ref sl) "slice" := ⟨os, hos, hcs⟩
  unfold getItem
  try with_reducible refine wpAny_holding ?_
  first | refine wpAny_bind (wpAny_pure ?_) | skip
  refine wpAny_bind (wpAny_sequenceKey ht.typeIs (by decide) ?_)
  refine wpAny_bind (wpAny_callSpecial?_slot (name := Str.ofString "__getitem__") ht.typeIs PyProof.Rows.slot_tuple_getitem
    (wpAny_call_entry PyProof.Rows.slot_tuple_getitem ht.typeIs PyProof.Rows.entry_tuple_getitem ?_ (PyProof.Rows.args_tuple_getitem _ _)))
  show wpAny _ _ (Builtin.Tuple.tupleItemsOf (.ref t) >>= _) _ _ s
  refine wpAny_bind (PyProof.Rows.tupleItemsOf_ ht ?_)
  refine wpAny_bind (wpAny_typeOf hTs ?_)
  rw [if_pos (by decide)]
  refine wpAny_bind ?_
  unfold Builtin.Slice.sliceApplied Builtin.Slice.sliceFields
  refine wpAny_bind (wpAny_bind (wpAny_field hos hds (x := .none) rfl (wpAny_bind (wpAny_field hos hds (x := .none) rfl (wpAny_bind (wpAny_field hos hds (x := vs) rfl (wpAny_pure ?_)))))))
  refine wpAny_bind (HT.slicePart_ ps ?_)
  show wpAny _ _ (if ((-1 : Int) == 0) = true then _ else _) _ _ s
  rw [if_neg (by decide)]
  refine wpAny_bind (HT.slicePart_ .none (wpAny_bind (HT.slicePart_ .none (wpAny_bind (wpAny_pure ?_)))))
  show wpAny _ _ (pure (((items.size : Int) - 1), (-1 : Int), Builtin.Slice.slicePlaces ((items.size : Int) - 1) (-1) (-1))) _ _ s
  rw [places_rev]
  refine wpAny_pure ?_
  have hno : ¬ ((((items.size : Int) - 1) == 0 && (-1 : Int) == 1 && items.size == items.size) = true) := by
    intro q
    rw [Bool.and_eq_true, Bool.and_eq_true] at q
    exact absurd q.1.2 (by decide)
  show wpAny _ _ (if (((items.size : Int) - 1) == 0 && (-1 : Int) == 1 && items.size == items.size) = true then _ else _) _ _ s
  rw [if_neg hno, rev_pick]
  first
    | exact wpAny_bind (m := Builtin.Tuple.tupleExact _) (wpAny_newObj_type (wpAny_pure ⟨_, rfl, wpAny_pure h⟩) htake)
    | exact wpAny_bind (m := Builtin.Tuple.tupleExact _) (wpAny_newObj_type (wpAny_bind (wpAny_pure (wpAny_pure ⟨_, rfl, wpAny_pure h⟩))) htake)
    | exact wpAny_bind (wpAny_bind (m := Builtin.Tuple.tupleExact _) (wpAny_newObj_type (wpAny_pure (wpAny_pure ⟨_, rfl, wpAny_pure h⟩)) htake))
    | exact wpAny_bind (wpAny_bind (m := Builtin.Tuple.tupleExact _) (wpAny_newObj_type (wpAny_pure ⟨_, rfl, wpAny_pure h⟩) htake))
end
def tRevT (K : PySem.W.Frag) (te : TE) : TE := fun σ H Q => te σ H fun x H1 => ∃ a xs, x = .ref a ∧ SqT K H1 a xs ∧ ∀ p its, H1 p = none → Q (.ref p) (upd H1 p (.frz (tupO its) (.tup xs.reverse)))
section
variable {X : Cx} {K : PySem.W.Frag}
theorem pe_revT {e : Expr} {te : TE} {k : Nat} {p1 p2 p3 pos : Pos} (he : PE X e te) : PE X (.Subscript e (.Slice none none (some (.UnaryOp .USub (.Constant (.int 1) k p1) p2)) p3) pos) (tRevT X.K te) := by
  refine ⟨fun pins s σ H Q I h => ?_⟩
  refine Subscript_ (thn (he.run pins s σ H _ I h) fun v s1 ⟨x, H1, I1, r1, q1⟩ => ?_)
  obtain ⟨a, xs, ex, hx, q⟩ := q1
  subst ex
  cases r1
  have hst : PO X (some (.UnaryOp .USub (.Constant (.int 1) k p1) p2)) (tPart (tUn (rU fun i => .int (-i)) (tC (.int 1)))) := po_some (pe_un un_neg pe_int)
  refine wpAny_Slice (thn (po_none.run pins s1 σ H1 (fun o H2 => o = none ∧ H2 = H1) I1 ⟨rfl, rfl⟩) fun vl s2 ⟨l, H2, I2, pl, el, e2⟩ => ?_)
  subst el e2
  refine thn (po_none.run pins s2 σ H2 (fun o H3 => o = none ∧ H3 = H2) I2 ⟨rfl, rfl⟩) fun vu s3 ⟨u, H3, I3, pu, eu, e3⟩ => ?_
  subst eu e3
  refine thn (hst.run pins s3 σ H3 (fun o H4 => o = some (-1) ∧ H4 = H3) I3 ⟨1, rfl, -1, rfl, rfl, rfl⟩) fun vs s4 ⟨o, H4, I4, ps, eo, e4⟩ => ?_
  subst eo e4
  have I5 : Inv X pins σ H4 { s4 with heap := s4.heap.push { cls := .type "slice", data := .fields #[vl, vu, vs] } } := I4.kept (t' := s4.toks) fun b ob q => Heap.get?_push_of_some _ q
  obtain ⟨its, r, ht, hz⟩ := I5.tuple hx
  have hlen := r.length
  show wpAny (model X.prog X.w) X.A (subscriptTail e (.Slice none none (some (.UnaryOp .USub (.Constant (.int 1) k p1) p2)) p3) (.ref a) (.ref s4.heap.objs.size)) (EP X pins σ Q) X.xe { s4 with heap := s4.heap.push { cls := .type "slice", data := .fields #[vl, vu, vs] } }
  have el : vl = .none := by cases pl; rfl
  have eu : vu = .none := by cases pu; rfl
  subst el eu
  refine tail_any (ops := [.ref a, .ref s4.heap.objs.size]) ht.typeIs (PyProof.Rows.slot_tuple_getitem.lookup) ?_ (by with_unfolding_all rfl)
  refine getItem_tuple_rev ht (Heap.IsSliceOf.new _ .none .none vs) ps ?_ (by rw [List.size_toArray]; omega)
  obtain ⟨I6, f⟩ := layT (tk := s4.toks) I5 (h' := s4.heap.push { cls := .type "slice", data := .fields #[.none, .none, vs] }) (fun _ _ e => e) (Nat.le_refl _) (its := its.reverse) (xs := xs.reverse) r.reverse (by rw [List.length_reverse]; exact hz)
  exact ⟨.ref _, _, I6, rfl, q _ _ f⟩
def revD : D → Option D
  | .list xs => some (.list xs.reverse)
  | .tuple xs => some (.tuple xs.reverse)
  | _ => none
def fRev (h : M SV) : M SV := fun en => (h en).bind fun p => (datS p.1).bind fun d => (revD d).bind fun r => some (.dat r, p.2)
theorem s_rev {e : Expr} {h : M SV} {k : Nat} {p1 p2 p3 pos : Pos} (he : PE X e (tE X.K h)) : PE X (.Subscript e (.Slice none none (some (.UnaryOp .USub (.Constant (.int 1) k p1) p2)) p3) pos) (tE X.K (fRev h)) := ⟨fun pins s σ H Q I ⟨G, en, sv, en', R, hf, kk⟩ => by
  obtain ⟨⟨sv1, en1⟩, h1, hf⟩ := Option.bind_eq_some_iff.mp hf
  obtain ⟨d, h2, hf⟩ := Option.bind_eq_some_iff.mp hf
  obtain ⟨r, h3, hf⟩ := Option.bind_eq_some_iff.mp hf
  cases hf
  have z : sv1 = .dat d := datS_ok h2
  subst z
  unfold revD at h3
  split at h3
  · cases h3
    refine (pe_revL he).run pins s σ H Q I ⟨G, en, _, en1, R, h1, fun v G1 H1 s1 rv => ?_⟩
    cases (show DP X.K G1 v (.list _) from rv) with
    | @lst a vs _ g1 g2 =>
      refine ⟨a, vs, rfl, SqL.of (s1.rel.gh.lst g1), fun p hp => ?_⟩
      have ps : Pst G1 H1 (upd G1 p (.lst vs.reverse)) (upd H1 p (.lst vs.reverse)) := Pst.new s1.rel.gh hp
      exact kk _ _ _ (s1.trans (ps.stp s1.rel)) (.lst upd_same (dps_ex ps.ex _ _ g2.reverse))
  · cases h3
    refine (pe_revT he).run pins s σ H Q I ⟨G, en, _, en1, R, h1, fun v G1 H1 s1 rv => ?_⟩
    cases (show DP X.K G1 v (.tuple _) from rv) with
    | @tup a vs _ g1 g2 =>
      refine ⟨a, vs, rfl, seqT_gh s1.rel.gh g1.sq, fun p its hp => ?_⟩
      have ps : Pst G1 H1 (upd G1 p (.frz (tupO its) (.tup vs.reverse))) (upd H1 p (.frz (tupO its) (.tup vs.reverse))) := Pst.new s1.rel.gh hp
      exact kk _ _ _ (s1.trans (ps.stp s1.rel)) (.tup (.inl ⟨its, upd_same⟩) (dps_ex ps.ex _ _ g2.reverse))
  · cases h3⟩
/-! #### range(a, b, -1) -/
def rngB (lo : Int) (n : Nat) : List D := (List.range n).map fun i : Nat => PyData.int (lo - (i : Int))
def int3 : List D → Option (Int × Int)
  | [.int i, .int j, .int c] => if c = -1 then some (i, j) else none
  | _ => none
theorem int3_ok {q : Int × Int} {ds : List D} (h : int3 ds = some q) : ds = [.int q.1, .int q.2, .int (-1)] := by
  unfold int3 at h
  split at h
  · split at h
    · rename_i hc
      subst hc
      cases h; rfl
    · cases h
  · cases h
def fRngB (fr : M (List Op)) : M (List D) := fun en => (fr en).bind fun p => (rsAll p.1 p.2).bind fun ds => (int3 ds).bind fun q => if -1000000 ≤ q.1 ∧ q.1 ≤ 1000000 ∧ -1000000 ≤ q.2 ∧ q.2 ≤ 1000000 then some (rngB q.1 (q.1 - q.2).toNat, p.2) else none
theorem it_rngB {G : Hp} {lo : Int} {n : Nat} : ItOk K false (Itc lo (-1) n) G (rngB lo n) := fun G2 H2 ex gh i => by
  refine ⟨fun d e => ?_, fun q => by unfold rngB at q; rw [List.length_map, List.length_range] at q; exact q⟩
  unfold rngB at e
  rw [List.getElem?_map] at e
  obtain ⟨j, e1, e2⟩ := Option.map_eq_some_iff.mp e
  obtain ⟨hi, e3⟩ := List.getElem?_eq_some_iff.mp e1
  rw [List.getElem_range] at e3
  subst e3 e2
  rw [List.length_range] at hi
  refine ⟨hi, fun x H3 y => ?_⟩
  obtain ⟨rfl, rfl⟩ := y
  refine ⟨G2, Pst.refl gh, .inl ?_⟩
  rw [show lo + ((i : Nat) : Int) * (-1) = lo - (i : Int) by omega]
  exact .int _
theorem s_rngB {a b c tg : Expr} {fr : M (List Op)} {x : Str} {p pos : Pos} (hx : x = "range") (hg : Gl X x) (hm : X.mg x = none) (ha : PA X [a, b, c] (tOs X.K fr)) (hs : starEach [a, b, c] X.env = (false, eval a X.env) :: starEach [b, c] X.env) (hpl : (backTo pos (starEach [b, c] X.env)).any (·.1) = false) :
    PI X tg (.Call (.Name x p) [a, b, c] [] pos) (tI X.K false (fRngB fr)) := by
  subst hx
  refine pi_weak (pi_range3 hg hm ha hs hpl) fun σ H R ⟨G, en, ds, en', RR, hf, k⟩ => ?_
  obtain ⟨⟨os, en1⟩, h1, hf⟩ := Option.bind_eq_some_iff.mp hf
  obtain ⟨dd, h2, hf⟩ := Option.bind_eq_some_iff.mp hf
  obtain ⟨q, h3, hf⟩ := Option.bind_eq_some_iff.mp hf
  split at hf
  · rename_i hl
    cases hf
    have z := int3_ok h3
    subst z
    refine ⟨G, en, os, _, RR, h1, fun vs G' H' st qq => ?_⟩
    have hv := rsAll_ok st.rel qq h2
    obtain ⟨v1, v2, v3, rfl, w1, w2, w3⟩ : ∃ v1 v2 v3, vs = [v1, v2, v3] ∧ VD X.K G' H' v1 (.int q.1) ∧ VD X.K G' H' v2 (.int q.2) ∧ VD X.K G' H' v3 (.int (-1)) := by
      cases hv with
      | cons r1 hv =>
        cases hv with
        | cons r2 hv =>
          cases hv with
          | cons r3 hv =>
            cases hv
            exact ⟨_, _, _, rfl, r1, r2, r3⟩
    exact ⟨q.1, q.2, -1, (q.1 - q.2).toNat, by rw [w1.int, w2.int, w3.int], RgC.neg (by omega) (by omega) (by omega) (by omega), k _ G' H' st it_rngB⟩
  · cases hf
/-! #### x.count(y) of data -/
def cntG (d k : D) : Option D := (seqV d).bind fun ds => if shp (.list ds) = true ∧ shp k = true then some (.int ((ds.countP fun y => PyData.eqv y k : Nat) : Int)) else none
def fCntG (fa fb : M Op) : M SV := fun en => (fa en).bind fun p => (rs p.1 p.2).bind fun d0 => (seqV d0).bind fun _ => (fb p.2).bind fun q => (rs p.1 q.2).bind fun d1 => (rs q.1 q.2).bind fun d2 => (cntG d1 d2).bind fun d => if (fCnt.isLst d0 == fCnt.isLst d1) = true then some (.dat d, q.2) else none
theorem plain_shp {ds : List D} (h : shp (.list ds) = true) : PyData.plainAll ds = true := by
  have h1 := PyData.plain_of_canLay0 _ (SeqAt.canLay_of_shaped h)
  unfold PyData.plain at h1
  exact h1
theorem s_cntG {e o : Expr} {apos cpos : Pos} {fa fb : M Op} (hu : X.A.units + 65 < cLine) (ha : PE X o (tO X.K fa)) (hb : PE X e (tO X.K fb)) (hbase : attributeBase o "count" X.env (eval o X.env) = eval o X.env)
    (hfew : ((backTo cpos (starEach [e] X.env)).all (fun x => !x.1) && (backToKw cpos (keywordEach [] X.env)).all (fun x => x.1.isSome) && decide (([e] : List Expr).length + ([] : List Keyword).length + (if ([] : List Keyword).isEmpty then 0 else 1) < 30)) = true)
    (hline : (apos.endLine == cpos.line) = true) (hs : starEach [e] X.env = (false, eval e X.env) :: starEach [] X.env) : PE X (.Call (.Attribute o "count" apos) [e] [] cpos) (tE X.K (fCntG fa fb)) := ⟨fun pins s σ H Q I ⟨G, en, sv, en', R, hf, k⟩ => by
  obtain ⟨⟨o1, en1⟩, h1, hf⟩ := Option.bind_eq_some_iff.mp hf
  obtain ⟨d0, h2, hf⟩ := Option.bind_eq_some_iff.mp hf
  obtain ⟨ds0, h3, hf⟩ := Option.bind_eq_some_iff.mp hf
  obtain ⟨⟨o2, en2⟩, h4, hf⟩ := Option.bind_eq_some_iff.mp hf
  obtain ⟨d1, h5, hf⟩ := Option.bind_eq_some_iff.mp hf
  obtain ⟨d2, h6, hf⟩ := Option.bind_eq_some_iff.mp hf
  obtain ⟨d, h7, hf⟩ := Option.bind_eq_some_iff.mp hf
  split at hf
  rotate_left
  · cases hf
  rename_i hsame
  cases hf
  obtain ⟨ds1, h8, h7⟩ := Option.bind_eq_some_iff.mp h7
  split at h7
  rotate_left
  · cases h7
  rename_i hsh
  cases h7
  have hpl := plain_shp hsh.1
  have hpk := PyData.plain_of_canLay0 _ (SeqAt.canLay_of_shaped hsh.2)
  have hdep := SeqAt.depth_of_shaped hsh.2
  refine wpAny_Call_method_late hbase hfew hline rfl (thn (ha.run pins s σ H (fun x H1 => ∃ G1, Stp X.K σ G H en σ G1 H1 en1 ∧ OR X.K G1 σ x o1) I ⟨G, en, o1, en1, R, h1, fun v1 G1 H1 s1 q1 => ⟨G1, s1, q1⟩⟩) fun v s1 ⟨x, H1, I1, r1, G1, st1, q1⟩ => ?_)
  have w0 := rs_ok st1.rel q1 h2
  have arg : wpAny (model X.prog X.w) X.A (spliced (backTo cpos (starEach [e] X.env))) (fun us s' => ∃ u H2 G2 w, us = [u] ∧ Inv X pins σ H2 s' ∧ RelV w u ∧ Stp X.K σ G1 H1 en1 σ G2 H2 en2 ∧ OR X.K G2 σ w o2) X.xe s1 := by
    refine thn ((pa_cons hb pa_nil hs).run cpos pins s1 σ H1 (fun vs H2 => ∃ G2 w, vs = [w] ∧ Stp X.K σ G1 H1 en1 σ G2 H2 en2 ∧ OR X.K G2 σ w o2) I1 ⟨G1, en1, o2, en2, st1.rel, h4, fun v2 G2 H2 s2 q2 => ⟨G2, v2, rfl, s2, q2⟩⟩) fun us s' ⟨vs, H2, I2, rv, G2, w, e, s2, q2⟩ => ?_
    subst e
    obtain ⟨u, e, ru⟩ := rv.one
    exact ⟨u, H2, G2, w, e, I2, ru, s2, q2⟩
  rw [hs] at arg ⊢
  rcases seqV_ok h3 with z | z
  · subst z
    obtain ⟨l, vs, rfl, hl, _⟩ := w0.lst st1.rel.gh
    obtain ⟨t1, t2⟩ := tyV_is (T := "list") I1 r1 (.inl ⟨rfl, vs, SqL.of hl⟩)
    cases r1
    refine ⟨"list", "list.count", PySem.F.plainAttrs_list, PySem.F.slot_list_count, PySem.F.type_list_count, t1, t2, ?_⟩
    refine Calls.callWith_builtin (by rfl) (Calls.evalArgs_plain (thn arg fun us s' ⟨u, H2, G2, w, e, I2, ru, s2, q2⟩ => ?_))
    subst e
    have w1 := rs_ok s2.rel (q1.ex s2.ex) h5
    have w2 := rs_ok s2.rel q2 h6
    obtain ⟨bs, rd2⟩ := Dp.reads I2 d2 w u (w2.dp s2.rel.gh) ru
    rcases seqV_ok h8 with z | z
    · subst z
      obtain ⟨as, rd1⟩ := Dp.reads I2 _ _ (Value.ref l) (w1.dp s2.rel.gh) rfl
      cases rd1 with
      | list g1 g2 g3 g4 =>
        obtain ⟨l', vs', e3, hl', hd⟩ := w1.lst s2.rel.gh
        cases e3
        obtain ⟨its, rv, il, _⟩ := I2.list (SqL.of (K := X.K) hl')
        obtain ⟨ob, gob, c1, n1, d1⟩ := il.isList
        rw [g1] at gob
        cases gob
        rw [g3] at d1
        cases d1
        exact SeqAt.count_list_data il.isList g4 rd2 hpl hpk (by omega) ⟨.int _, H2, I2.tok _, ⟨_, rfl⟩, k _ G2 H2 (st1.trans s2) (.int _)⟩
    · subst z
      cases hsame
  · subst z
    obtain ⟨l, vs, rfl, hx⟩ := w0.tupX
    obtain ⟨ob, g1, g2, g3, _⟩ := (tupX_gh st1.rel.gh hx).bare I1
    cases r1
    refine ⟨"tuple", "tuple.count", PySem.F.plainAttrs_tuple, PySem.F.slot_tuple_count, PySem.F.type_tuple_count, ⟨ob, g1, g2⟩, fun c z => by cases z; exact ⟨ob, g1, g3⟩, ?_⟩
    refine Calls.callWith_builtin (by rfl) (Calls.evalArgs_plain (thn arg fun us s' ⟨u, H2, G2, w, e, I2, ru, s2, q2⟩ => ?_))
    subst e
    have w1 := rs_ok s2.rel (q1.ex s2.ex) h5
    have w2 := rs_ok s2.rel q2 h6
    obtain ⟨bs, rd2⟩ := Dp.reads I2 d2 w u (w2.dp s2.rel.gh) ru
    rcases seqV_ok h8 with z | z
    · subst z
      cases hsame
    · subst z
      obtain ⟨as, rd1⟩ := Dp.reads I2 _ _ (Value.ref l) (w1.dp s2.rel.gh) rfl
      cases rd1 with
      | tuple g1 g2 g3 g4 =>
        exact SeqAt.count_tuple_data ⟨_, g1, g2, _, g3⟩ g4 rd2 hpl hpk (by omega) ⟨.int _, H2, I2.tok _, ⟨_, rfl⟩, k _ G2 H2 (st1.trans s2) (.int _)⟩⟩
end
end Pf

set_option maxHeartbeats 4000000
namespace Pf
open PySem PySem.Spec PyProof.Rows L2
open PySem.W (alike dataLe EachIs sorted_data)

/-! #### sorted(xs) of data -/
def altB (ds : List D) : Bool := (ds.all fun d => ds.all fun d' => alike d d') && ((ds.all fun d => match d with | .tuple (_ :: _) => true | _ => false) || (ds.all fun d => match d with | .none => false | .tuple _ => false | _ => true)) && ds.all fun d => shp d && decide (PyData.depth d ≤ 60)
def srtD (ds : List D) : List D := ds.mergeSort (dataLe false id)
def fSort (fa : M Op) : M (List D) := fun en => (fa en).bind fun p => (rs p.1 p.2).bind fun d1 => (lstV d1).bind fun ds => if altB ds = true then some (srtD ds, p.2) else none
theorem each_of {R : Value → D → Prop} {K : PySem.W.Frag} {G : Hp} : ∀ {vs : List V} {ds : List D} {us : List Value}, DPs K G vs ds → Vals vs us → (∀ v d u, DP K G v d → RelV v u → R u d) → EachIs R us ds
  | _, _, _, .nil, .nil, _ => .nil
  | _, _, _, .cons r t, .cons r' t', k => .cons (k _ _ _ r r') (each_of t t' k)
theorem each_out {K : PySem.W.Frag} {G : Hp} : ∀ {us : List Value} {ds : List D}, EachIs (fun u d => ∃ v, RelV v u ∧ DP K G v d) us ds → ∃ vs, Vals vs us ∧ DPs K G vs ds
  | _, _, .nil => ⟨[], .nil, .nil⟩
  | _, _, .cons ⟨v, r, d⟩ t => by
    obtain ⟨vs, r', d'⟩ := each_out t
    exact ⟨v :: vs, .cons r r', .cons d d'⟩
section
variable {X : Cx} {K : PySem.W.Frag}
theorem call_sortedData (hc : X.calm = true) (hu : X.A.units + 65 < cLine) : CallR X (.builtin "sorted") (fun xs H Q => ∃ (G : Hp) (l : Addr) (vs : List V) (ds : List D), xs = [.ref l] ∧ GH G H ∧ SqL X.K H l vs ∧ DPs X.K G vs ds ∧ altB ds = true ∧
    ∀ p ws, DPs X.K G ws (srtD ds) → H p = none → Q (.ref p) (upd H p (.lst ws))) := fun pins s σ H xs us Q I r h => by
  obtain ⟨G, l, vs, ds, rfl, g, hq, hd, hb, q⟩ := h
  obtain ⟨u, rfl, rx⟩ := vals1 r
  cases rx
  obtain ⟨its, rv, pl, hz⟩ := I.list hq
  unfold altB at hb
  rw [Bool.and_eq_true, Bool.and_eq_true] at hb
  obtain ⟨⟨h1, h2⟩, h3⟩ := hb
  have hlen : ds.length = vs.length := hd.length.symm
  have er : EachIs (fun v b => ∃ as, Reads s.heap v (id b) as) its ds := each_of hd rv fun v d u r1 r2 => Dp.reads I d v u (dp_dp g _ _ r1) r2
  have e : EachIs (fun u d => ∃ v, RelV v u ∧ DP X.K G v d) its ds := each_of hd rv fun v d u r1 r2 => ⟨v, r2, r1⟩
  refine sorted_data (enc := id) (R := fun u d => ∃ v, RelV v u ∧ DP X.K G v d) pl.isList e er ?_ ?_ (by rw [hlen]; exact hz) (fun b hb => ?_) fun out ho eo => ?_
  · rw [List.map_id]
    intro d hd1 d' hd2
    exact List.all_eq_true.mp (List.all_eq_true.mp h1 d hd1) d' hd2
  · rw [List.map_id]
    rw [Bool.or_eq_true] at h2
    rcases h2 with z | z
    · refine .inl fun d hd1 => ?_
      have := List.all_eq_true.mp z d hd1
      split at this
      · exact ⟨_, _, rfl⟩
      · cases this
    · refine .inr fun d hd1 => ?_
      have := List.all_eq_true.mp z d hd1
      split at this
      · cases this
      · cases this
      · rename_i n1 n2
        exact ⟨fun z => n1 z, fun xs z => n2 _ z⟩
  · have := List.all_eq_true.mp h3 b hb
    rw [Bool.and_eq_true] at this
    have hdp := of_decide_eq_true this.2
    show X.A.units + 2 + PyData.depth b < cLine
    omega
  · obtain ⟨ws, rw1, dw⟩ := each_out eo
    obtain ⟨ep, he'⟩ := PyProof.Rows.sortedAll_at s.heap its (List.toArray out)
    have hwl : ws.length ≤ sizeLine := by
      rw [rw1.length, ho, hlen]
      exact hz
    exact ⟨.ref _, upd H (s.heap.objs.size + 1) (.lst ws), I.laid (t' := s.toks) (fun _ _ => PyProof.Rows.sortedAll_old) (Nat.le_succ _) ⟨hwl, out, ep, rw1, he'⟩, rfl, q _ ws dw (I.hok.fresh (Nat.le_succ _))⟩
theorem s_sort {a : Expr} {fa : M Op} {x : Str} {p pos : Pos} (hc : X.calm = true) (hu : X.A.units + 65 < cLine) (hx : x = "sorted") (hg : Gl X x) (hm : X.mg x = none) (ha : PE X a (tO X.K fa)) (hs : starEach [a] X.env = (false, eval a X.env) :: starEach [] X.env) : PE X (.Call (.Name x p) [a] [] pos) (tN X.K (fSort fa)) := by
  subst hx
  refine pe_weak (pe_callB (call_sortedData hc hu) hg hm (by decide +kernel) (pa_cons ha pa_nil hs) (by decide) (by decide) hs) fun σ H Q ⟨G, en, sv, en', R, hf, k⟩ => ?_
  obtain ⟨⟨o1, en1⟩, h1, hf⟩ := Option.bind_eq_some_iff.mp hf
  obtain ⟨d1, e1, hf⟩ := Option.bind_eq_some_iff.mp hf
  obtain ⟨ds, e2, hf⟩ := Option.bind_eq_some_iff.mp hf
  split at hf
  rotate_left
  · cases hf
  rename_i hb
  cases hf
  refine ⟨G, en, o1, _, R, h1, fun v1 G1 H1 s1 q1 => ?_⟩
  have z := lstV_ok e2
  subst z
  obtain ⟨l, vs, rfl, hl1, hd1⟩ := (rs_ok s1.rel q1 e1).lst s1.rel.gh
  exact ⟨G1, l, vs, ds, rfl, s1.rel.gh, SqL.of hl1, hd1, hb, fun p ws hw hp => new_at s1 hp hw k⟩
/-! #### sorted(set(t)) of a tuple of whole numbers -/
def insU (x : Int) : List Int → List Int
  | [] => [x]
  | y :: l => if x < y then x :: y :: l else if x = y then y :: l else y :: insU x l
def usort : List Int → List Int
  | [] => []
  | x :: l => insU x (usort l)
theorem insU_mem (x : Int) : ∀ (l : List Int) (k : Int), k ∈ insU x l ↔ k = x ∨ k ∈ l
  | [], k => by simp [insU]
  | y :: l, k => by
    unfold insU
    split
    · simp
    · split
      · rename_i h
        subst h
        simp
      · rw [List.mem_cons, insU_mem x l k, List.mem_cons]
        constructor
        · rintro (h | h | h)
          · exact .inr (.inl h)
          · exact .inl h
          · exact .inr (.inr h)
        · rintro (h | h | h)
          · exact .inr (.inl h)
          · exact .inl h
          · exact .inr (.inr h)
theorem insU_lt (x : Int) : ∀ (l : List Int), l.Pairwise (· < ·) → (insU x l).Pairwise (· < ·)
  | [], _ => List.pairwise_singleton _ _
  | y :: l, h => by
    obtain ⟨h1, h2⟩ := List.pairwise_cons.mp h
    unfold insU
    split
    · rename_i hxy
      refine List.pairwise_cons.mpr ⟨fun z hz => ?_, h⟩
      rcases List.mem_cons.mp hz with rfl | hz
      · exact hxy
      · have := h1 z hz; omega
    · split
      · exact h
      · refine List.pairwise_cons.mpr ⟨fun z hz => ?_, insU_lt x l h2⟩
        rcases (insU_mem x l z).mp hz with rfl | hz
        · omega
        · exact h1 z hz
theorem usort_mem : ∀ (l : List Int) (k : Int), k ∈ usort l ↔ k ∈ l
  | [], k => Iff.rfl
  | x :: l, k => by
    show k ∈ insU x (usort l) ↔ _
    rw [insU_mem, usort_mem l k, List.mem_cons]
theorem usort_lt : ∀ (l : List Int), (usort l).Pairwise (· < ·)
  | [] => List.Pairwise.nil
  | x :: l => insU_lt x _ (usort_lt l)
theorem lt_unique : ∀ {xs ys : List Int}, xs.Pairwise (· < ·) → ys.Pairwise (· < ·) → (∀ k, k ∈ xs ↔ k ∈ ys) → xs = ys
  | [], [], _, _, _ => rfl
  | [], y :: ys, _, _, h => absurd ((h y).mpr List.mem_cons_self) (by simp)
  | x :: xs, [], _, _, h => absurd ((h x).mp List.mem_cons_self) (by simp)
  | x :: xs, y :: ys, h1, h2, h => by
    obtain ⟨a1, a2⟩ := List.pairwise_cons.mp h1
    obtain ⟨b1, b2⟩ := List.pairwise_cons.mp h2
    have e : x = y := by
      rcases List.mem_cons.mp ((h x).mp List.mem_cons_self) with z | z
      · exact z
      · rcases List.mem_cons.mp ((h y).mpr List.mem_cons_self) with w | w
        · exact w.symm
        · have := a1 y w
          have := b1 x z
          omega
    subst e
    congr 1
    refine lt_unique a2 b2 fun k => ?_
    constructor
    · intro hk
      rcases List.mem_cons.mp ((h k).mp (List.mem_cons_of_mem _ hk)) with z | z
      · have := a1 k hk; omega
      · exact z
    · intro hk
      rcases List.mem_cons.mp ((h k).mpr (List.mem_cons_of_mem _ hk)) with z | z
      · have := b1 k hk; omega
      · exact z
def tupV : D → Option (List D)
  | .tuple ds => some ds
  | _ => none
def fSortSet (fa : M Op) : M (List D) := fun en => (fa en).bind fun p => (rs p.1 p.2).bind fun d1 => (tupV d1).bind fun ds => (intsOf ds).bind fun ns => if ns.length < 60 then some ((usort ns).map PyData.int, p.2) else none
theorem s_sortSet {a : Expr} {fa : M Op} {x y : Str} {p p2 q pos : Pos} (hc : X.calm = true) (hx : x = "sorted") (hg : Gl X x) (hm : X.mg x = none) (hy : y = "set") (hg2 : Gl X y) (hm2 : X.mg y = none) (ha : PE X a (tO X.K fa)) (na : starEach [a] X.env = (false, eval a X.env) :: starEach [] X.env) :
    PE X (.Call (.Name x p) [.Call (.Name y p2) [a] [] q] [] pos) (tN X.K (fSortSet fa)) := by
  subst hx hy
  refine ⟨fun pins s σ H Q I ⟨G, en, ds0, en', R, hf, k⟩ => ?_⟩
  obtain ⟨⟨o1, en1⟩, h1, hf⟩ := Option.bind_eq_some_iff.mp hf
  obtain ⟨d1, e1, hf⟩ := Option.bind_eq_some_iff.mp hf
  obtain ⟨ds, e2, hf⟩ := Option.bind_eq_some_iff.mp hf
  obtain ⟨ns, e3, hf⟩ := Option.bind_eq_some_iff.mp hf
  split at hf
  rotate_left
  · cases hf
  rename_i hl
  cases hf
  have z : d1 = .tuple ds := by
    unfold tupV at e2
    split at e2
    · cases e2; rfl
    · cases e2
  subst z
  have z := intsOf_eq e3
  subst z
  refine Call_ (ld_blt I hg hm PyProof.Rows.boot_sorted ?_)
  refine PyProof.Rows.callWith_builtin1 (PyProof.Rows.args_cons ?_ rfl) rfl rfl
  refine Call_ (ld_blt I hg2 hm2 PyProof.Rows.boot_set ?_)
  refine PyProof.Rows.callWith_type1 (PyProof.Rows.args_cons (thn (ha.run pins s σ H (fun x H1 => ∃ G1, Stp X.K σ G H en σ G1 H1 en1 ∧ OR X.K G1 σ x o1) I ⟨G, en, o1, en1, R, h1, fun v1 G1 H1 s1 q1 => ⟨G1, s1, q1⟩⟩) fun v s1 ⟨x, H1, I1, r1, G1, st1, q1⟩ => PyProof.Rows.args_nil ?_) na) na rfl
  obtain ⟨l, vs, rfl, hq, hd, _⟩ := (rs_ok st1.rel q1 e1).tup
  have e4 := vals_ints hd
  subst e4
  cases r1
  obtain ⟨its, rv, pt, hz⟩ := I1.tuple (seqT_gh st1.rel.gh hq)
  have hi : IntsAre its.toArray.toList ns := ints_of_vals rv
  have hd := I1.ok.hd hc
  refine call_set_tupI ns hd (show s1.heap.IsTuple l its.toArray from pt) hi (by unfold scanBound; omega) fun h' tk c R1 hcn kk => ?_
  refine PyProof.Rows.args_nil ?_
  have I2 : Inv X pins σ H1 { s1 with heap := h', toks := tk } := I1.kept kk
  refine sorted_set R1 (I2.ok.hd hc) (by omega) fun s' pp out c' ns' k' g o hp hget hi' hs hm' hl' => ?_
  have en : ns' = usort ns := lt_unique hs (usort_lt ns) fun j => by rw [hm' j, decide_eq_true_eq, usort_mem]
  have hn : H1 pp = none := I2.hok.fresh hp
  have hlen : (ns'.map V.int).length ≤ sizeLine := by rw [List.length_map, hl', sizeLine_eq]; omega
  have J : Inv X pins σ (upd H1 pp (.lst (ns'.map V.int))) { ({ s1 with heap := h', toks := tk } : Shared) with heap := s'.heap, gens := s'.gens, drawn := s'.drawn, toks := s'.toks } :=
    I2.call (ch := []) (Un.laid k' hp hn) (I2.hok.laid k' hp ⟨hlen, out.toList, c', vals_of_ints hi', hget⟩) (by rw [g]; exact I2.bare) (fun _ z => nomatch z)
  have e : s' = { s1 with heap := s'.heap, gens := s'.gens, drawn := s'.drawn, toks := s'.toks } := by
    cases s'
    cases s1
    cases o
    rfl
  rw [e]
  subst en
  exact ⟨.ref pp, _, J, rfl, new_at st1 hn (DPs.of_ints (usort ns)) k⟩
end
end Pf

set_option maxHeartbeats 4000000
namespace Pf
open PySem L2
section
variable {X : Cx} {K : PySem.W.Frag} {a : Expr} {es : List Expr} {pos : Pos} {fr : M (List WI)}
/-! #### {}; a new dict among several values -/
def fNewD : M (List (Key × D)) := fun en => some ([], en)
theorem s_newD : PE X (.Dict [] [] pos) (tDn X.K fNewD) := pe_weak pe_dnewK fun σ H Q ⟨G, en, kvs, en', R, hf, k⟩ => by
  cases hf
  intro p hp
  have ps : Pst G H G (upd H p (.dK [])) := Pst.lay R.gh hp
  exact k p [] G _ (ps.stp R) hp upd_same (R.gh.free hp) (fun z => (R.own z).1 hp) .nil
def fWd (h : M (List (Key × D))) (fr : M (List WI)) : M (List WI) := fun en => (h en).bind fun p => (fr p.2).bind fun q => some (.own (.odic false p.1) :: q.1, q.2)
theorem s_wd {f : M (List (Key × D))} (ha : PE X a (tDn X.K f)) (hr : PA X es (tW X.K fr)) (hs : starEach (a :: es) X.env = (false, eval a X.env) :: starEach es X.env) : PA X (a :: es) (tW X.K (fWd f fr)) := pa_weak (pa_cons ha hr hs) fun σ H Q ⟨G, en, os, en', R, hf, k⟩ => by
  obtain ⟨⟨o1, en1⟩, h1, hf⟩ := Option.bind_eq_some_iff.mp hf
  obtain ⟨⟨o2, en2⟩, h2, hf⟩ := Option.bind_eq_some_iff.mp hf
  cases hf
  refine ⟨G, en, o1, en1, R, h1, fun p vs G1 H1 s1 h0 hp gp no hd => ⟨G1, en1, o2, _, s1.rel, h2, fun ws G2 H2 s2 q2 => ?_⟩⟩
  obtain ⟨hp2, gp2, no2⟩ := s2.keepL hp gp no
  refine k (.ref p :: ws) G2 H2 (s1.trans s2) (.cons ⟨p, rfl, ⟨p, vs, rfl, hp2, gp2, hd.ex s2.ex⟩, no2, _, hp2⟩ (fun ds e => ⟨p, rfl, h0, fun q hq ds' e' z => ?_⟩) (q2.base fun b => free_of_live s1))
  obtain ⟨p', e1, e2⟩ := q2.new q hq ds' e'
  rw [z] at e1
  cases e1
  rw [e2] at hp
  cases hp
end
end Pf

set_option maxHeartbeats 4000000
namespace Pf
open PySem L2

/-! ### a small syntax for it -/
mutual
inductive Tg where
  | name (i : Nat)
  | tup (n : Nat) (ts : Tgs)
inductive Tgs where
  | nil
  | cons (t : Tg) (r : Tgs)
end
mutual
inductive E where
  | lit (d : D)
  | glob (x : Str) (k : Nat)
  | var (i : Nat)
  | bin (o : Bin) (a b : O)
  | neg (a : O)
  | test (t : T)
  | ite (c : T) (a b : E)
  | at (a b : O)
  | atR (i : Nat) (b : O)
  | lenR (i : Nat)
  | atD (a b : O)
  | cut (a : O) (lo hi : P)
  | fn (g : Fn) (as : Os)
  | isi (t : Ty) (a : O)
  | cnt (a b : O)
  | alt (a b : E)
  | tup (as : Es)
  | tupOf (a : O)
  | call (x : Str) (f : Nat) (as : Es)
  | callW (x : Str) (f : Nat) (i : Nat) (as : Es)
  | fresh (l : L)
  | freshD (d : Dd)
  | dictOf (a : O)
  | rev (a : E)
  | cntG (a b : O)
inductive L where
  | disp (as : Es)
  | cat (a b : O)
  | rep (a b : O)
  | of (a : O)
  | ofR1 (a : O)
  | ofR2 (a b : O)
  | sort (a : O)
  | sortSet (a : O)
  | comp (elt : E) (tg : Tg) (it : I) (c : C) (own : List (Str × Nat))
inductive Dd where
  | disp (ps : Ps)
  | copy (a : O)
  | new
inductive Ps where
  | nil
  | cons (k : Key) (e : E) (r : Ps)
inductive O where
  | slot (i : Nat)
  | val (e : E)
inductive P where
  | no
  | yes (a : O)
inductive Os where
  | nil
  | cons (a : O) (r : Os)
inductive Es where
  | nil
  | cons (e : E) (r : Es)
inductive T where
  | cmp (o : Cm) (a b : O)
  | chain (o o' : Cm) (a b c : O)
  | and (ts : Ts)
  | or (ts : Ts)
  | not (t : T)
  | val (e : E)
inductive Ts where
  | one (t : T)
  | cons (t : T) (r : Ts)
inductive I where
  | seq (e : E)
  | rng1 (as : Os)
  | rng2 (as : Os)
  | zip (as : Es)
  | keys (i : Nat)
  | rngB (as : Os)
inductive C where
  | yes
  | one (t : T)
end
/-- the defs by number: how many arguments, the function -/
structure Sys where
  f : Nat → Nat × Fnc
  c : Nat → D
mutual
def evG : Tg → D → En → Option En
  | .name i => gN i
  | .tup n ts => gT (lenIs n (evGs ts))
def evGs : Tgs → List D → En → Option En
  | .nil => gs0
  | .cons t r => gsC (evG t) (evGs r)
end
mutual
def ixG : Tg → List Nat
  | .name i => [i]
  | .tup _ ts => ixGs ts
def ixGs : Tgs → List Nat
  | .nil => []
  | .cons t r => ixG t ++ ixGs r
end
mutual
def evE (Y : Sys) : E → M SV
  | .lit d => fLit d
  | .glob _ k => fLit (Y.c k)
  | .var i => fVar i
  | .bin o a b => fBin o (evO Y a) (evO Y b)
  | .neg a => fNeg (evO Y a)
  | .test t => fTest (evT Y t)
  | .ite c a b => fIte (evT Y c) (evE Y a) (evE Y b)
  | .at a b => fAt (evO Y a) (evO Y b)
  | .atR i b => fAtR i (evO Y b)
  | .lenR i => fLenR i
  | .atD a b => fAtD (evO Y a) (evO Y b)
  | .cut a lo hi => fCut (evO Y a) (evP Y lo) (evP Y hi)
  | .fn g as => fFn g (evOs Y as)
  | .isi t a => fIsi t (evO Y a)
  | .cnt a b => fCnt (evO Y a) (evO Y b)
  | .alt a b => fAlt (evE Y a) (evE Y b)
  | .tup as => fTup (evEs Y as)
  | .tupOf a => fTupOf (evO Y a)
  | .call _ f as => fCall (Y.f f).1 (Y.f f).2 (evEs Y as)
  | .callW _ f i as => fCallW (Y.f f).1 (Y.f f).2 i (evEs Y as)
  | .fresh l => fFresh (evL Y l)
  | .freshD d => fFreshD (evDd Y d)
  | .dictOf a => fDictOf (evO Y a)
  | .rev a => fRev (evE Y a)
  | .cntG a b => fCntG (evO Y a) (evO Y b)
def evL (Y : Sys) : L → M (List D)
  | .disp as => fDisp (evEs Y as)
  | .cat a b => fCatL (evO Y a) (evO Y b)
  | .rep a b => fRepL (evO Y a) (evO Y b)
  | .of a => fListOf (evO Y a)
  | .ofR1 a => fOfR1 (evO Y a)
  | .ofR2 a b => fOfR2 (evO Y a) (evO Y b)
  | .sort a => fSort (evO Y a)
  | .sortSet a => fSortSet (evO Y a)
  | .comp elt tg it c own => fComp (own.map (·.2)) (evI Y it) (evG tg) (evC Y c) (evE Y elt)
def evDd (Y : Sys) : Dd → M (List (Key × D))
  | .disp ps => fDict (evPs Y ps)
  | .copy a => fCopyD (evO Y a)
  | .new => fNewD
def evPs (Y : Sys) : Ps → List (Key × M SV)
  | .nil => []
  | .cons k e r => (k, evE Y e) :: evPs Y r
def evO (Y : Sys) : O → M Op
  | .slot i => fSlotC i
  | .val e => fVal (evE Y e)
def evP (Y : Sys) : P → M (Option Int)
  | .no => fNoPart
  | .yes a => fPart (evO Y a)
def evOs (Y : Sys) : Os → M (List Op)
  | .nil => fOs0
  | .cons a r => fOs (evO Y a) (evOs Y r)
def evEs (Y : Sys) : Es → M (List SV)
  | .nil => fVs0
  | .cons e r => fVs (evE Y e) (evEs Y r)
def evT (Y : Sys) : T → M Bool
  | .cmp o a b => fCmp o (evO Y a) (evO Y b)
  | .chain o o' a b c => fChain o o' (evO Y a) (evO Y b) (evO Y c)
  | .and ts => evTs Y true ts
  | .or ts => evTs Y false ts
  | .not t => fNot (evT Y t)
  | .val e => fBool (evE Y e)
def evTs (Y : Sys) (and : Bool) : Ts → M Bool
  | .one t => evT Y t
  | .cons t r => if and = true then fAnd (evT Y t) (evTs Y and r) else fOr (evT Y t) (evTs Y and r)
def evI (Y : Sys) : I → M (List D)
  | .seq e => fSeq (evE Y e)
  | .rng1 as => fRng1 (evOs Y as)
  | .rng2 as => fRng2 (evOs Y as)
  | .zip as => fZip (evEs Y as)
  | .keys i => fKeys i
  | .rngB as => fRngB (evOs Y as)
def evC (Y : Sys) : C → M Bool
  | .yes => fun en => some (true, en)
  | .one t => evT Y t
end

/-! #### what must be seen of the text -/
inductive GK where
  | blt
  | fn (j : Nat)
  | cst (k : Nat)
structure Sc where
  N : List Str
  sc : Scope
  raw : Option Scope
  gl : List (Str × GK)
def Sc.blk (S : Sc) (scope : Scope) : Sc := { S with sc := relS scope S.sc, raw := some scope }
def kindB : Option NameKind → NameKind → Bool
  | some a, b => decide (a = b)
  | none, _ => false
def visB (S : Sc) (i : Nat) (x : Str) : Bool := decide (S.N[i]? = some x) && (kindB (S.sc.names.lookup x) .local || kindB (S.sc.names.lookup x) .cell || kindB (S.sc.names.lookup x) .free) && !(x == ("__debug__" : Str)) && !(x == ("__classdict__" : Str))
def locB (S : Sc) (i : Nat) (x : Str) : Bool := decide (S.N[i]? = some x) && (kindB (S.sc.names.lookup x) .local || kindB (S.sc.names.lookup x) .cell) &&
  (match S.raw with
    | none => true
    | some r => (r.names.lookup x == some NameKind.cell) || kindB (S.sc.names.lookup x) .local)
def glB (S : Sc) (x : Str) : Bool := kindB (S.sc.names.lookup x) .globalImplicit
def isBlt : Option GK → Bool
  | some .blt => true
  | _ => false
def bltB (S : Sc) (x : Str) (y : Str) : Bool := decide (x = y) && glB S x && isBlt (S.gl.lookup x)
def fnB (S : Sc) (x y : Str) (f : Nat) : Bool := decide (x = y) && glB S x && !(x == ("__debug__" : Str)) && (match S.gl.lookup x with
  | some (.fn j) => decide (j = f)
  | _ => false)
def plE : Expr → Bool
  | .Starred _ _ => false
  | _ => true
def plIx : Expr → Bool
  | .Slice _ _ _ _ => false
  | _ => true
def plM : Expr → Bool
  | .Set _ _ _ => false
  | _ => true
def plT : Expr → Bool
  | .Name _ _ => true
  | .Call _ _ _ _ => true
  | .Subscript _ _ _ => true
  | .Constant _ _ _ => true
  | _ => false
def plA : Expr → Bool
  | .Name _ _ => true
  | .Subscript _ _ _ => true
  | .List _ _ => true
  | _ => false
theorem base_pl {o : Expr} {x : Str} {env : Env} (h : plA o = true) : attributeBase o x env (eval o env) = eval o env := by
  cases o <;> first | rfl | cases h
theorem few1_pl {e : Expr} {env : Env} {cpos : Pos} (h : plE e = true) (hs : starEach [e] env = (false, eval e env) :: starEach [] env) : ((backTo cpos (starEach [e] env)).all (fun x => !x.1) && (backToKw cpos (keywordEach [] env)).all (fun x => x.1.isSome)
      && decide (([e] : List Expr).length + ([] : List Keyword).length + (if ([] : List Keyword).isEmpty then 0 else 1) < 30)) = true := by
  rw [hs]; rfl
def plS : Expr → Bool
  | .ListComp _ _ _ _ => false
  | .SetComp _ _ _ _ => false
  | .DictComp _ _ _ _ _ => false
  | _ => true
theorem starEach_pl {e : Expr} {es : List Expr} {env : Env} (h : plE e = true) : starEach (e :: es) env = (false, eval e env) :: starEach es env := by
  cases e <;> first | rfl | cases h
theorem backTo_pl {pos : Pos} {env : Env} : ∀ {es : List Expr}, es.all plE = true → (backTo pos (starEach es env)).any (·.1) = false
  | [], _ => rfl
  | e :: es, h => by
    rw [List.all_cons, Bool.and_eq_true] at h
    rw [starEach_pl h.1]
    exact backTo_pl h.2
theorem ix_pl {e : Expr} (h : plIx e = true) : PlainIx e := by
  cases e <;> first | (intro o i; rfl) | cases h
theorem sl_pl {e : Expr} (h : plIx e = true) : NoSl e := by
  cases e <;> first | (intro o i; rfl) | cases h
theorem mark_pl {e : Expr} {o : CmpOp} (h : plM e = true) : behindInMarks o e = false := by
  cases e <;> first | rfl | cases h
theorem true_pl {e : Expr} {env : Env} (h : plT e = true) : ∀ whole, isTrue e env whole = (do let v ← whole; standAt e.pos; holding [v] (truthy v)) := by
  cases e <;> first | (intro _; rfl) | cases h
theorem swap_pl {e : Expr} {t : Option Expr} {l : Nat} {env : Env} (h : plS e = true) : swapsWith e t l env = pure false := by
  cases e <;> first | rfl | cases h
theorem fold_pl {e : Expr} {env : Env} (h : plM e = true) : ∀ x, foldedSetIterable e env x = pure x := by
  cases e <;> first | (intro _; rfl) | cases h
end Pf

set_option maxHeartbeats 4000000
namespace Pf
open PySem L2

mutual
def chkG : Tg → Sc → Expr → Bool
  | .name i => fun S e => match e with
    | .Name x _ => locB S i x
    | _ => false
  | .tup n ts => fun S e => match e with
    | .Tuple es _ _ => decide (es.length = n) && chkGs ts S es
    | _ => false
def chkGs : Tgs → Sc → List Expr → Bool
  | .nil => fun _ es => match es with
    | [] => true
    | _ => false
  | .cons t r => fun S es => match es with
    | e :: es => plE e && (chkG t S e && chkGs r S es)
    | [] => false
end
def cstB (c : Const) (d : D) : Bool := match c, d with
  | .none, .none => true
  | .bool b, .bool b' => decide (b = b')
  | .int i, .int j => decide (i = j)
  | .str s, .str t => decide (s = t)
  | _, _ => false
def gcB (S : Sc) (x : Str) (k : Nat) : Bool := match S.gl.lookup x with
  | some (.cst j) => decide (j = k)
  | _ => false
mutual
def chkE : E → Sc → Expr → Bool
  | .lit d => fun _ e => match e with
    | .Constant c _ _ => cstB c d
    | _ => false
  | .glob x k => fun S e => match e with
    | .Name y _ => decide (x = y) && (glB S y && (!(y == ("__debug__" : Str)) && gcB S y k))
    | _ => false
  | .var i => fun S e => match e with
    | .Name x _ => visB S i x
    | _ => false
  | .bin o a b => fun S e => match e with
    | .BinOp l op r _ => decide (o.op = op) && (chkO a S l && chkO b S r)
    | _ => false
  | .neg a => fun S e => match e with
    | .UnaryOp op x _ => decide (op = .USub) && chkO a S x
    | _ => false
  | .test t => fun S e => chkT t S e
  | .ite c a b => fun S e => match e with
    | .IfExp t x y _ => chkT c S t && (chkE a S x && chkE b S y)
    | _ => false
  | .at a b => fun S e => match e with
    | .Subscript o i _ => plIx i && (chkO a S o && chkO b S i)
    | _ => false
  | .atR j b => fun S e => match e with
    | .Subscript (.Name x _) i _ => plIx i && (visB S j x && chkO b S i)
    | _ => false
  | .lenR j => fun S e => match e with
    | .Call (.Name f _) [.Name x _] [] _ => bltB S f "len" && visB S j x
    | _ => false
  | .atD a b => fun S e => match e with
    | .Subscript o i _ => plIx i && (chkO a S o && chkO b S i)
    | _ => false
  | .cut a lo hi => fun S e => match e with
    | .Subscript o (.Slice l h none _) _ => chkO a S o && (chkP lo S l && chkP hi S h)
    | _ => false
  | .fn g as => fun S e => match e with
    | .Call (.Name f _) (x :: xs) [] _ => bltB S f g.name && (plE x && (xs.all plE && chkOs as S (x :: xs)))
    | _ => false
  | .isi t a => fun S e => match e with
    | .Call (.Name f _) [x, .Name y _] [] _ => bltB S f "isinstance" && (bltB S y (Str.ofString t.name) && (plE x && chkO a S x))
    | _ => false
  | .cnt a b => fun S e => match e with
    | .Call (.Attribute o m apos) [x] [] cpos => decide (m = "count") && (plA o && (plE x && ((apos.endLine == cpos.line) && (chkO a S o && chkO b S x))))
    | _ => false
  | .alt a b => fun S e => chkE a S e && chkE b S e
  | .tup as => fun S e => match e with
    | .Tuple xs _ _ => chkEs as S xs
    | _ => false
  | .tupOf a => fun S e => match e with
    | .Call (.Name f _) [x] [] _ => bltB S f "tuple" && (plE x && chkO a S x)
    | _ => false
  | .call x f as => fun S e => match e with
    | .Call (.Name y _) (z :: zs) [] _ => fnB S y x f && (plE z && (zs.all plE && chkEs as S (z :: zs)))
    | _ => false
  | .callW x f i as => fun S e => match e with
    | .Call (.Name y _) (.Name z _ :: zs) [] _ => fnB S y x f && (visB S i z && (zs.all plE && chkEs as S zs))
    | _ => false
  | .fresh l => fun S e => chkL l S e
  | .freshD d => fun S e => chkDd d S e
  | .dictOf a => fun S e => match e with
    | .Call (.Name f _) [x] [] _ => bltB S f "dict" && (plE x && chkO a S x)
    | _ => false
  | .rev a => fun S e => match e with
    | .Subscript o (.Slice none none (some (.UnaryOp .USub (.Constant (.int 1) _ _) _)) _) _ => chkE a S o
    | _ => false
  | .cntG a b => fun S e => match e with
    | .Call (.Attribute o m apos) [x] [] cpos => decide (m = "count") && (plA o && (plE x && ((apos.endLine == cpos.line) && (chkO a S o && chkO b S x))))
    | _ => false
def chkL : L → Sc → Expr → Bool
  | .disp as => fun S e => match e with
    | .List xs _ => chkEs as S xs
    | _ => false
  | .cat a b => fun S e => match e with
    | .BinOp l op r _ => decide (op = .Add) && (chkO a S l && chkO b S r)
    | _ => false
  | .rep a b => fun S e => match e with
    | .BinOp l op r _ => decide (op = .Mult) && (chkO a S l && chkO b S r)
    | _ => false
  | .of a => fun S e => match e with
    | .Call (.Name f _) [x] [] _ => bltB S f "list" && (plE x && chkO a S x)
    | _ => false
  | .ofR1 a => fun S e => match e with
    | .Call (.Name f _) [.Call (.Name r _) [x] [] _] [] _ => bltB S f "list" && (bltB S r "range" && (plE x && chkO a S x))
    | _ => false
  | .ofR2 a b => fun S e => match e with
    | .Call (.Name f _) [.Call (.Name r _) [x, y] [] _] [] _ => bltB S f "list" && (bltB S r "range" && (plE x && (plE y && (chkO a S x && chkO b S y))))
    | _ => false
  | .sort a => fun S e => match e with
    | .Call (.Name f _) [x] [] _ => bltB S f "sorted" && (plE x && chkO a S x)
    | _ => false
  | .sortSet a => fun S e => match e with
    | .Call (.Name f _) [.Call (.Name r _) [x] [] _] [] _ => bltB S f "sorted" && (bltB S r "set" && (plE x && chkO a S x))
    | _ => false
  | .comp elt tg it c own => fun S e => match e with
    | .ListComp x [⟨t, i, ifs, a⟩] scope _ => decide (a = 0) && (blkC S.N S.sc scope own && ((ixG tg).all (fun j => decide (j ∈ own.map (·.2))) && (plM i && (chkI it S t i && (chkG tg (S.blk scope) t && (chkC c (S.blk scope) ifs && chkE elt (S.blk scope) x))))))
    | _ => false
def chkDd : Dd → Sc → Expr → Bool
  | .disp ps => fun S e => match e with
    | .Dict ks vs _ => !ks.isEmpty && (decide (ks.length ≤ 15) && chkPs ps S ks vs)
    | _ => false
  | .copy a => fun S e => match e with
    | .Call (.Name f _) [x] [] _ => bltB S f "dict" && (plE x && chkO a S x)
    | _ => false
  | .new => fun _ e => match e with
    | .Dict [] [] _ => true
    | _ => false
def chkPs : Ps → Sc → List (Option Expr) → List Expr → Bool
  | .nil => fun _ ks vs => match ks, vs with
    | [], [] => true
    | _, _ => false
  | .cons k e r => fun S ks vs => match ks, vs with
    | some (.Constant c _ _) :: ks, v :: vs => (match c, k with
      | .int i, .inl j => decide (i = j)
      | .str i, .inr j => decide (i = j)
      | _, _ => false) && (chkE e S v && chkPs r S ks vs)
    | _, _ => false
def chkO : O → Sc → Expr → Bool
  | .slot i => fun S e => match e with
    | .Name x _ => visB S i x
    | _ => false
  | .val p => fun S e => chkE p S e
def chkP : P → Sc → Option Expr → Bool
  | .no => fun _ e => match e with
    | none => true
    | _ => false
  | .yes a => fun S e => match e with
    | some x => chkO a S x
    | none => false
def chkOs : Os → Sc → List Expr → Bool
  | .nil => fun _ es => match es with
    | [] => true
    | _ => false
  | .cons a r => fun S es => match es with
    | e :: es => plE e && (chkO a S e && chkOs r S es)
    | [] => false
def chkEs : Es → Sc → List Expr → Bool
  | .nil => fun _ es => match es with
    | [] => true
    | _ => false
  | .cons a r => fun S es => match es with
    | e :: es => plE e && (chkE a S e && chkEs r S es)
    | [] => false
def chkT : T → Sc → Expr → Bool
  | .cmp o a b => fun S e => match e with
    | .Compare l [op] [r] _ => decide (o.op = op) && (plM r && (chkO a S l && chkO b S r))
    | _ => false
  | .chain o o' a b c => fun S e => match e with
    | .Compare l [op, op'] [r, r'] _ => decide (o.op = op) && (decide (o'.op = op') && (plM r' && (chkO a S l && (chkO b S r && chkO c S r'))))
    | _ => false
  | .and ts => fun S e => match e with
    | .BoolOp op vs _ => decide (op = .And) && chkTs ts S vs
    | _ => false
  | .or ts => fun S e => match e with
    | .BoolOp op vs _ => decide (op = .Or) && chkTs ts S vs
    | _ => false
  | .not t => fun S e => match e with
    | .UnaryOp op x _ => decide (op = .Not) && chkT t S x
    | _ => false
  | .val p => fun S e => plT e && chkE p S e
def chkTs : Ts → Sc → List Expr → Bool
  | .one t => fun S vs => match vs with
    | [v] => chkT t S v
    | _ => false
  | .cons t r => fun S vs => match vs with
    | v :: w :: ws => chkT t S v && chkTs r S (w :: ws)
    | _ => false
def chkI : I → Sc → Expr → Expr → Bool
  | .seq p => fun S _ e => chkE p S e
  | .rng1 as => fun S _ e => match e with
    | .Call (.Name f _) [x] [] _ => bltB S f "range" && (plE x && chkOs as S [x])
    | _ => false
  | .rng2 as => fun S _ e => match e with
    | .Call (.Name f _) [x, y] [] _ => bltB S f "range" && (plE x && (plE y && chkOs as S [x, y]))
    | _ => false
  | .zip as => fun S t e => match t, e with
    | .Tuple _ _ _, .Call (.Name f _) [x, y] [] _ => bltB S f "zip" && (plE x && (plE y && chkEs as S [x, y]))
    | _, _ => false
  | .rngB as => fun S _ e => match e with
    | .Call (.Name f _) [x, y, z] [] _ => bltB S f "range" && (plE x && (plE y && (plE z && chkOs as S [x, y, z])))
    | _ => false
  | .keys i => fun S _ e => match e with
    | .Name x _ => visB S i x
    | _ => false
def chkC : C → Sc → List Expr → Bool
  | .yes => fun _ es => match es with
    | [] => true
    | _ => false
  | .one t => fun S es => match es with
    | [e] => chkT t S e
    | _ => false
end

/-! #### the context is as the look says -/
structure Good (Y : Sys) (S : Sc) (X : Cx) : Prop where
  hN : X.N = S.N
  nd : X.N.Nodup
  sc : X.env.scope = S.sc
  fn : ∀ x, X.fn x = (match S.raw with
    | none => true
    | some r => r.names.lookup x == some NameKind.cell)
  calm : X.calm = true
  room : Room 0 X.A
  blt : ∀ x, isBlt (S.gl.lookup x) = true → X.mg x = none
  cst : ∀ x k, S.gl.lookup x = some (.cst k) → ∃ u v, X.mg x = some u ∧ RelV v u ∧ ∀ G, DP X.K G v (Y.c k)
  fns : ∀ x j, S.gl.lookup x = some (.fn j) → ∃ f fd ps k, X.mg x = some (.ref f) ∧ PySem.W.keepIn X.K (.ref f) = true ∧ Binds X.K fd ps [] ∧ FnOk X.prog X.w X.K X.mg X.base CX0 k f fd ps (spD X.K (Y.f j).2 (Y.f j).1) ∧ Room k X.A
theorem kindB_ok {a : Option NameKind} {b : NameKind} (h : kindB a b = true) : a = some b := by
  cases a with
  | none => cases h
  | some k => exact congrArg some (of_decide_eq_true h)
section
variable {Y : Sys} {S : Sc} {X : Cx}
theorem Good.units (G : Good Y S X) : X.A.units + 65 < cLine := by have := G.room.un; omega
theorem Good.blk (G : Good Y S X) (scope : Scope) (s : Shared) (H : Hp) (cl : List (Str × Addr)) (c : Addr) (fp : List Addr) : Good Y (S.blk scope) (X.blk s H scope (compEnvC scope cl c X.env) fp) where
  hN := G.hN
  nd := G.nd
  sc := by show relS scope X.env.scope = relS scope S.sc; rw [G.sc]
  fn := fun _ => rfl
  calm := G.calm
  room := G.room
  blt := G.blt
  cst := G.cst
  fns := G.fns
theorem Good.vis (G : Good Y S X) {i : Nat} {x : Str} {pos : Pos} (h : visB S i x = true) : PE X (.Name x pos) (tVar i) := by
  unfold visB at h
  simp only [Bool.and_eq_true, Bool.or_eq_true, decide_eq_true_eq, Bool.not_eq_true'] at h
  obtain ⟨⟨⟨h1, h2⟩, h3⟩, h4⟩ := h
  refine pe_var (by rw [G.hN]; exact h1) ?_ h3 h4
  rcases h2 with (h2 | h2) | h2
  · exact .inl (by rw [G.sc]; exact kindB_ok h2)
  · exact .inr (.inl (by rw [G.sc]; exact kindB_ok h2))
  · exact .inr (.inr (by rw [G.sc]; exact kindB_ok h2))
theorem Good.loc (G : Good Y S X) {i : Nat} {x : Str} (h : locB S i x = true) : X.N[i]? = some x ∧ Loc X.env.scope x ∧ (X.fn x = true ∨ X.env.scope.names.lookup x = some .local) := by
  unfold locB at h
  simp only [Bool.and_eq_true, Bool.or_eq_true, decide_eq_true_eq] at h
  obtain ⟨⟨h1, h2⟩, h3⟩ := h
  refine ⟨by rw [G.hN]; exact h1, ?_, ?_⟩
  · rcases h2 with h2 | h2
    · exact .inl (by rw [G.sc]; exact kindB_ok h2)
    · exact .inr (by rw [G.sc]; exact kindB_ok h2)
  · rw [G.fn]
    cases hr : S.raw with
    | none => exact .inl rfl
    | some r =>
      rw [hr] at h3
      simp only [Bool.or_eq_true] at h3
      exact h3.imp id fun z => by rw [G.sc]; exact kindB_ok z
theorem Good.name (G : Good Y S X) {i : Nat} {x : Str} {pos : Pos} (h : locB S i x = true) : PG X (.Name x pos) (gName i) := by
  obtain ⟨h1, h2, h3⟩ := G.loc h
  exact pg_name G.nd h1 h2 h3
theorem Good.gl (G : Good Y S X) {x : Str} (h : glB S x = true) : Gl X x := by
  show X.env.scope.names.lookup x = _
  rw [G.sc]
  exact kindB_ok h
theorem Good.bl (G : Good Y S X) {x y : Str} (h : bltB S x y = true) : x = y ∧ Gl X x ∧ X.mg x = none := by
  unfold bltB at h
  simp only [Bool.and_eq_true, decide_eq_true_eq] at h
  exact ⟨h.1.1, G.gl h.1.2, G.blt x h.2⟩
theorem Good.fnc (G : Good Y S X) {x y : Str} {f : Nat} (h : fnB S x y f = true) : Gl X x ∧ (x == ("__debug__" : Str)) = false ∧
    ∃ a fd ps k, X.mg x = some (.ref a) ∧ PySem.W.keepIn X.K (.ref a) = true ∧ Binds X.K fd ps [] ∧ FnOk X.prog X.w X.K X.mg X.base CX0 k a fd ps (spD X.K (Y.f f).2 (Y.f f).1) ∧ Room k X.A := by
  unfold fnB at h
  simp only [Bool.and_eq_true, decide_eq_true_eq, Bool.not_eq_true'] at h
  obtain ⟨⟨⟨h1, h2⟩, h3⟩, h4⟩ := h
  refine ⟨G.gl h2, h3, ?_⟩
  split at h4
  · rename_i j hj
    have e : j = f := of_decide_eq_true h4
    subst e
    exact G.fns x j hj
  · cases h4
end
theorem evTs_pl : ∀ {ts : Ts} {S : Sc} {vs : List Expr}, chkTs ts S vs = true → ∃ v ws, vs = v :: ws
  | .one t, S, vs, h => by
    rw [chkTs] at h
    dsimp only at h
    split at h
    · exact ⟨_, _, rfl⟩
    · cases h
  | .cons t r, S, vs, h => by
    rw [chkTs] at h
    dsimp only at h
    split at h
    · exact ⟨_, _, rfl⟩
    · cases h
def isTup : Tg → Bool
  | .tup _ _ => true
  | _ => false
def weakI : I → Bool
  | .zip _ => true
  | _ => false
theorem weak_tup {it : I} {S S' : Sc} {t e : Expr} {tg : Tg} (h : chkI it S t e = true) (h' : chkG tg S' t = true) (z : weakI it = true) : isTup tg = true := by
  cases it with
  | zip as =>
    rw [chkI] at h
    dsimp only at h
    split at h
    · cases tg with
      | name i => rw [chkG] at h'; cases h'
      | tup _ _ => rfl
    · cases h
  | _ => cases z
mutual
theorem sG {Y : Sys} : ∀ (p : Tg) (S : Sc) (X : Cx), Good Y S X → ∀ (w : Bool), (w = true → isTup p = true) → ∀ e, chkG p S e = true → PG X e (tG X.K w (ixG p) (evG p))
  | .name i, S, X, G, w, hw, e, h => by
    have ew : w = false := by
      cases w with
      | true => cases hw rfl
      | false => rfl
    subst ew
    rw [chkG] at h
    dsimp only at h
    split at h
    · rw [ixG, evG]
      exact s_gN (G.name h)
    · cases h
  | .tup n ts, S, X, G, w, _, e, h => by
    rw [chkG] at h
    dsimp only at h
    split at h
    · rename_i es _ _
      simp only [Bool.and_eq_true, decide_eq_true_eq] at h
      rw [ixG, evG]
      obtain ⟨a1, a2, a3⟩ := sGs ts S X G es h.2
      exact s_gT G.calm a1 (by rw [a2]; exact h.1) a3
    · cases h
theorem sGs {Y : Sys} : ∀ (p : Tgs) (S : Sc) (X : Cx), Good Y S X → ∀ es, chkGs p S es = true → PGs X es (tGs X.K (ixGs p) (evGs p)) ∧ (assignEach es X.env).length = es.length ∧ (assignEach es X.env).findIdx? (·.1) = none
  | .nil, S, X, G, es, h => by
    rw [chkGs] at h
    dsimp only at h
    split at h
    · rw [ixGs, evGs]
      exact ⟨s_gs0, rfl, rfl⟩
    · cases h
  | .cons t r, S, X, G, es, h => by
    rw [chkGs] at h
    dsimp only at h
    split at h
    · rename_i e es
      simp only [Bool.and_eq_true] at h
      obtain ⟨a1, a2, a3⟩ := sGs r S X G es h.2.2
      have b := sG t S X G false (fun z => by cases z) e h.2.1
      have hs : assignEach (e :: es) X.env = (false, assign e X.env) :: assignEach es X.env := by
        have hp := h.1
        cases e <;> first | rfl | cases hp
      rw [ixGs, evGs]
      refine ⟨s_gsC b a1 (by rw [hs]; rfl), by rw [hs]; exact congrArg Nat.succ a2, ?_⟩
      rw [hs, List.findIdx?_cons, a3]
      rfl
    · cases h
end
end Pf

set_option maxHeartbeats 4000000
namespace Pf
open PySem L2

theorem cst_ok {X : Cx} {c : Const} {d : D} {k : Nat} {pos : Pos} (h : cstB c d = true) : PE X (.Constant c k pos) (tE X.K (fLit d)) := by
  unfold cstB at h
  split at h
  · exact s_lit pe_non fun _ => .non
  · cases of_decide_eq_true h; exact s_lit pe_bl fun _ => .bl _
  · cases of_decide_eq_true h; exact s_lit pe_int fun _ => .int _
  · cases of_decide_eq_true h; exact s_lit pe_str fun _ => .str _
  · cases h
theorem s_yes {X : Cx} : PTs X [] (tT X.K fun en => some (true, en)) := ⟨fun pins s σ H Q I ⟨G, en, c, en', R, hf, k⟩ => by
  cases hf
  exact pts_nil.run pins s σ H Q I (k G H (Stp.refl R))⟩
theorem lastM {o o' : CmpOp} {r r' : Expr} (h : plM r' = true) : lastMarks [o, o'] [r, r'] = false := by
  show behindInMarks o' r' = false
  exact mark_pl h
mutual
theorem sE {Y : Sys} : ∀ (p : E) (S : Sc) (X : Cx), Good Y S X → ∀ e, chkE p S e = true → PE X e (tE X.K (evE Y p))
  | .lit d, S, X, G, e, h => by
    rw [chkE] at h
    dsimp only at h
    split at h
    · rw [evE]; exact cst_ok h
    · cases h
  | .glob x k, S, X, G, e, h => by
    rw [chkE] at h
    dsimp only at h
    split at h
    · simp only [Bool.and_eq_true, decide_eq_true_eq, Bool.not_eq_true'] at h
      obtain ⟨h1, h2, h3, h4⟩ := h
      subst h1
      unfold gcB at h4
      split at h4
      · rename_i j hj
        have e : j = k := of_decide_eq_true h4
        subst e
        obtain ⟨u, v, m, r, d⟩ := G.cst _ _ hj
        rw [evE]
        exact s_lit (pe_glob (G.gl h2) m r h3) d
      · cases h4
    · cases h
  | .var i, S, X, G, e, h => by
    rw [chkE] at h
    dsimp only at h
    split at h
    · rw [evE]; exact s_var (G.vis h)
    · cases h
  | .bin o a b, S, X, G, e, h => by
    rw [chkE] at h
    dsimp only at h
    split at h
    · simp only [Bool.and_eq_true, decide_eq_true_eq] at h
      obtain ⟨h1, h2, h3⟩ := h
      subst h1
      rw [evE]; exact s_bin o (sO a S X G _ h2) (sO b S X G _ h3)
    · cases h
  | .neg a, S, X, G, e, h => by
    rw [chkE] at h
    dsimp only at h
    split at h
    · simp only [Bool.and_eq_true, decide_eq_true_eq] at h
      obtain ⟨h1, h2⟩ := h
      subst h1
      rw [evE]; exact s_neg (sO a S X G _ h2)
    · cases h
  | .test t, S, X, G, e, h => by
    rw [chkE] at h
    dsimp only at h
    rw [evE]; exact (sT t S X G e h).2
  | .ite c a b, S, X, G, e, h => by
    rw [chkE] at h
    dsimp only at h
    split at h
    · simp only [Bool.and_eq_true] at h
      obtain ⟨h1, h2, h3⟩ := h
      rw [evE]; exact s_ite (sT c S X G _ h1).1 (sE a S X G _ h2) (sE b S X G _ h3)
    · cases h
  | .at a b, S, X, G, e, h => by
    rw [chkE] at h
    dsimp only at h
    split at h
    · simp only [Bool.and_eq_true] at h
      obtain ⟨h1, h2, h3⟩ := h
      rw [evE]; exact s_at (sO a S X G _ h2) (sO b S X G _ h3) (ix_pl h1)
    · cases h
  | .atR j b, S, X, G, e, h => by
    rw [chkE] at h
    dsimp only at h
    split at h
    · simp only [Bool.and_eq_true] at h
      obtain ⟨h1, h2, h3⟩ := h
      rw [evE]; exact s_atR (G.vis h2) (sO b S X G _ h3) (ix_pl h1)
    · cases h
  | .lenR j, S, X, G, e, h => by
    rw [chkE] at h
    dsimp only at h
    split at h
    · simp only [Bool.and_eq_true] at h
      obtain ⟨h1, h2⟩ := h
      obtain ⟨b1, b2, b3⟩ := G.bl h1
      rw [evE]; exact s_lenR b1 b2 b3 (G.vis h2) rfl
    · cases h
  | .atD a b, S, X, G, e, h => by
    rw [chkE] at h
    dsimp only at h
    split at h
    · simp only [Bool.and_eq_true] at h
      obtain ⟨h1, h2, h3⟩ := h
      rw [evE]; exact s_atD (by have := G.units; omega) (sO a S X G _ h2) (sO b S X G _ h3) (sl_pl h1)
    · cases h
  | .cut a lo hi, S, X, G, e, h => by
    rw [chkE] at h
    dsimp only at h
    split at h
    · simp only [Bool.and_eq_true] at h
      obtain ⟨h1, h2, h3⟩ := h
      rw [evE]; exact s_cut (sO a S X G _ h1) (sP lo S X G _ h2) (sP hi S X G _ h3)
    · cases h
  | .fn g as, S, X, G, e, h => by
    rw [chkE] at h
    dsimp only at h
    split at h
    · simp only [Bool.and_eq_true] at h
      obtain ⟨h1, h2, h3, h4⟩ := h
      obtain ⟨b1, b2, b3⟩ := G.bl h1
      rw [evE]; exact s_fn g G.calm b1 b2 b3 (sOs as S X G _ h4) (starEach_pl h2) (backTo_pl h3)
    · cases h
  | .isi t a, S, X, G, e, h => by
    rw [chkE] at h
    dsimp only at h
    split at h
    · simp only [Bool.and_eq_true] at h
      obtain ⟨h1, h2, h3, h4⟩ := h
      obtain ⟨b1, b2, b3⟩ := G.bl h1
      obtain ⟨c1, c2, c3⟩ := G.bl h2
      rw [evE]; exact s_isi t b1 b2 b3 c1 c2 c3 (sO a S X G _ h4) (starEach_pl h3)
    · cases h
  | .cnt a b, S, X, G, e, h => by
    rw [chkE] at h
    dsimp only at h
    split at h
    · simp only [Bool.and_eq_true, decide_eq_true_eq] at h
      obtain ⟨h1, h2, h3, h4, h5, h6⟩ := h
      subst h1
      rw [evE]; exact s_cnt (sO a S X G _ h5) (sO b S X G _ h6) (base_pl h2) (few1_pl h3 (starEach_pl h3)) h4 (starEach_pl h3)
    · cases h
  | .alt a b, S, X, G, e, h => by
    rw [chkE] at h
    dsimp only at h
    simp only [Bool.and_eq_true] at h
    rw [evE]; exact s_alt (sE a S X G e h.1) (sE b S X G e h.2)
  | .tup as, S, X, G, e, h => by
    rw [chkE] at h
    dsimp only at h
    split at h
    · rw [evE]; exact s_tup (sEs as S X G _ h)
    · cases h
  | .tupOf a, S, X, G, e, h => by
    rw [chkE] at h
    dsimp only at h
    split at h
    · simp only [Bool.and_eq_true] at h
      obtain ⟨h1, h2, h3⟩ := h
      obtain ⟨b1, b2, b3⟩ := G.bl h1
      rw [evE]; exact s_tupOf b1 b2 b3 (sO a S X G _ h3) (starEach_pl h2)
    · cases h
  | .call x f as, S, X, G, e, h => by
    rw [chkE] at h
    dsimp only at h
    split at h
    · simp only [Bool.and_eq_true] at h
      obtain ⟨h1, h2, h3, h4⟩ := h
      obtain ⟨b1, b2, a, fd, ps, k, m, kp, bb, F, r⟩ := G.fnc h1
      rw [evE]; exact s_call F r b1 m kp bb (sEs as S X G _ h4) b2 (starEach_pl h2) (backTo_pl h3)
    · cases h
  | .callW x f i as, S, X, G, e, h => by
    rw [chkE] at h
    dsimp only at h
    split at h
    · simp only [Bool.and_eq_true] at h
      obtain ⟨h1, h2, h3, h4⟩ := h
      obtain ⟨b1, b2, a, fd, ps, k, m, kp, bb, F, r⟩ := G.fnc h1
      rw [evE]; exact s_callW F r b1 m kp bb (G.vis h2) (sEs as S X G _ h4) b2 rfl (backTo_pl h3)
    · cases h
  | .fresh l, S, X, G, e, h => by
    rw [chkE] at h
    dsimp only at h
    rw [evE]; exact s_fresh (sL l S X G e h)
  | .freshD d, S, X, G, e, h => by
    rw [chkE] at h
    dsimp only at h
    rw [evE]; exact s_freshD (sDd d S X G e h) fun _ _ _ q => q
  | .dictOf a, S, X, G, e, h => by
    rw [chkE] at h
    dsimp only at h
    split at h
    · simp only [Bool.and_eq_true] at h
      obtain ⟨h1, h2, h3⟩ := h
      obtain ⟨b1, b2, b3⟩ := G.bl h1
      rw [evE]; exact s_dictOf G.calm b1 b2 b3 (sO a S X G _ h3) (starEach_pl h2)
    · cases h
  | .rev a, S, X, G, e, h => by
    rw [chkE] at h
    dsimp only at h
    split at h
    · rw [evE]; exact s_rev (sE a S X G _ h)
    · cases h
  | .cntG a b, S, X, G, e, h => by
    rw [chkE] at h
    dsimp only at h
    split at h
    · simp only [Bool.and_eq_true, decide_eq_true_eq] at h
      obtain ⟨h1, h2, h3, h4, h5, h6⟩ := h
      subst h1
      rw [evE]; exact s_cntG G.units (sO a S X G _ h5) (sO b S X G _ h6) (base_pl h2) (few1_pl h3 (starEach_pl h3)) h4 (starEach_pl h3)
    · cases h
theorem sL {Y : Sys} : ∀ (p : L) (S : Sc) (X : Cx), Good Y S X → ∀ e, chkL p S e = true → PE X e (tN X.K (evL Y p))
  | .disp as, S, X, G, e, h => by
    rw [chkL] at h
    dsimp only at h
    split at h
    · rw [evL]; exact s_disp (sEs as S X G _ h)
    · cases h
  | .cat a b, S, X, G, e, h => by
    rw [chkL] at h
    dsimp only at h
    split at h
    · simp only [Bool.and_eq_true, decide_eq_true_eq] at h
      obtain ⟨h1, h2, h3⟩ := h
      subst h1
      rw [evL]; exact s_catL (sO a S X G _ h2) (sO b S X G _ h3)
    · cases h
  | .rep a b, S, X, G, e, h => by
    rw [chkL] at h
    dsimp only at h
    split at h
    · simp only [Bool.and_eq_true, decide_eq_true_eq] at h
      obtain ⟨h1, h2, h3⟩ := h
      subst h1
      rw [evL]; exact s_repL (sO a S X G _ h2) (sO b S X G _ h3)
    · cases h
  | .of a, S, X, G, e, h => by
    rw [chkL] at h
    dsimp only at h
    split at h
    · simp only [Bool.and_eq_true] at h
      obtain ⟨h1, h2, h3⟩ := h
      obtain ⟨b1, b2, b3⟩ := G.bl h1
      rw [evL]; exact s_listOf b1 b2 b3 (sO a S X G _ h3) (starEach_pl h2)
    · cases h
  | .ofR1 a, S, X, G, e, h => by
    rw [chkL] at h
    dsimp only at h
    split at h
    · simp only [Bool.and_eq_true] at h
      obtain ⟨h1, h2, h3, h4⟩ := h
      obtain ⟨b1, b2, b3⟩ := G.bl h1
      obtain ⟨c1, c2, c3⟩ := G.bl h2
      rw [evL]; exact s_ofR1 G.calm b1 b2 b3 c1 c2 c3 (sO a S X G _ h4) (starEach_pl h3)
    · cases h
  | .ofR2 a b, S, X, G, e, h => by
    rw [chkL] at h
    dsimp only at h
    split at h
    · simp only [Bool.and_eq_true] at h
      obtain ⟨h1, h2, h3, h4, h5, h6⟩ := h
      obtain ⟨b1, b2, b3⟩ := G.bl h1
      obtain ⟨c1, c2, c3⟩ := G.bl h2
      rw [evL]; exact s_ofR2 G.calm b1 b2 b3 c1 c2 c3 (sO a S X G _ h5) (sO b S X G _ h6) (starEach_pl h3) (starEach_pl h4) (backTo_pl (by rw [List.all_cons, h4]; rfl))
    · cases h
  | .sort a, S, X, G, e, h => by
    rw [chkL] at h
    dsimp only at h
    split at h
    · simp only [Bool.and_eq_true] at h
      obtain ⟨h1, h2, h3⟩ := h
      obtain ⟨b1, b2, b3⟩ := G.bl h1
      rw [evL]; exact s_sort G.calm G.units b1 b2 b3 (sO a S X G _ h3) (starEach_pl h2)
    · cases h
  | .sortSet a, S, X, G, e, h => by
    rw [chkL] at h
    dsimp only at h
    split at h
    · simp only [Bool.and_eq_true] at h
      obtain ⟨h1, h2, h3, h4⟩ := h
      obtain ⟨b1, b2, b3⟩ := G.bl h1
      obtain ⟨c1, c2, c3⟩ := G.bl h2
      rw [evL]; exact s_sortSet G.calm b1 b2 b3 c1 c2 c3 (sO a S X G _ h4) (starEach_pl h3)
    · cases h
  | .comp elt tg it c own, S, X, G, e, h => by
    rw [chkL] at h
    dsimp only at h
    split at h
    · simp only [Bool.and_eq_true, decide_eq_true_eq] at h
      obtain ⟨h0, h1, h2, h3, h4, h5, h6, h7⟩ := h
      subst h0
      rw [evL]
      refine pe_weak (pe_lc (own := own) G.calm G.nd (sI it S X G _ _ h4) (by rw [G.hN, G.sc]; exact blkOk_by h1) (fun s H C cl fp => sG tg _ _ (G.blk _ s H cl C fp) _ (weak_tup h4 h5) _ h5) (fun s H C cl fp => sC c _ _ (G.blk _ s H cl C fp) _ h6)
        (fun s H C cl fp => sE elt _ _ (G.blk _ s H cl C fp) _ h7) (fold_pl h3)) (lc_read fun i hi => ?_)
      exact of_decide_eq_true (List.all_eq_true.mp h2 i hi)
    · cases h
theorem sDd {Y : Sys} : ∀ (p : Dd) (S : Sc) (X : Cx), Good Y S X → ∀ e, chkDd p S e = true → PE X e (tDn X.K (evDd Y p))
  | .disp ps, S, X, G, e, h => by
    rw [chkDd] at h
    dsimp only at h
    split at h
    · rename_i ks vs pos
      simp only [Bool.and_eq_true, decide_eq_true_eq, Bool.not_eq_true'] at h
      obtain ⟨h1, h2, h3⟩ := h
      obtain ⟨a1, a2, a3, a4⟩ := sPs ps S X G ks vs pos h3
      rw [evDd]
      refine pe_weak (pe_disp a1 a3 a2 ?_ h2) (dict_read _ (by rw [a4]; exact h2))
      rintro rfl
      cases h1
    · cases h
  | .copy a, S, X, G, e, h => by
    rw [chkDd] at h
    dsimp only at h
    split at h
    · simp only [Bool.and_eq_true] at h
      obtain ⟨h1, h2, h3⟩ := h
      obtain ⟨b1, b2, b3⟩ := G.bl h1
      rw [evDd]; exact s_copyD b1 b2 b3 (sO a S X G _ h3) (starEach_pl h2)
    · cases h
  | .new, S, X, G, e, h => by
    rw [chkDd] at h
    dsimp only at h
    split at h
    · rw [evDd]; exact s_newD
    · cases h
theorem sPs {Y : Sys} : ∀ (p : Ps) (S : Sc) (X : Cx), Good Y S X → ∀ ks vs pos, chkPs p S ks vs = true → PPs X pos ks vs ((evPs Y p).map fun q => (tC (kV q.1), tE X.K q.2)) ∧ ks.length = vs.length ∧ ks.all (·.isSome) = true ∧ (evPs Y p).length = ks.length
  | .nil, S, X, G, ks, vs, pos, h => by
    rw [chkPs] at h
    dsimp only at h
    split at h
    · rw [evPs]; exact ⟨pps_nil, rfl, rfl, rfl⟩
    · cases h
  | .cons k e r, S, X, G, ks, vs, pos, h => by
    rw [chkPs] at h
    dsimp only at h
    split at h
    · rename_i c n q ks v vs
      simp only [Bool.and_eq_true] at h
      obtain ⟨h1, h2, h3⟩ := h
      obtain ⟨a1, a2, a3, a4⟩ := sPs r S X G ks vs pos h3
      rw [evPs]
      refine ⟨?_, congrArg Nat.succ a2, by rw [List.all_cons, a3]; rfl, congrArg Nat.succ a4⟩
      refine pps_cons ?_ (sE e S X G _ h2) a1
      split at h1
      · cases of_decide_eq_true h1; exact pe_int
      · cases of_decide_eq_true h1; exact pe_str
      · cases h1
    · cases h
theorem sO {Y : Sys} : ∀ (p : O) (S : Sc) (X : Cx), Good Y S X → ∀ e, chkO p S e = true → PE X e (tO X.K (evO Y p))
  | .slot i, S, X, G, e, h => by
    rw [chkO] at h
    dsimp only at h
    split at h
    · rw [evO]; exact s_slot (G.vis h)
    · cases h
  | .val q, S, X, G, e, h => by
    rw [chkO] at h
    dsimp only at h
    rw [evO]; exact s_val (sE q S X G e h)
theorem sP {Y : Sys} : ∀ (p : P) (S : Sc) (X : Cx), Good Y S X → ∀ e, chkP p S e = true → PO X e (tPt X.K (evP Y p))
  | .no, S, X, G, e, h => by
    rw [chkP] at h
    dsimp only at h
    split at h
    · rw [evP]; exact s_noPart
    · cases h
  | .yes a, S, X, G, e, h => by
    rw [chkP] at h
    dsimp only at h
    split at h
    · rw [evP]; exact s_part (sO a S X G _ h)
    · cases h
theorem sOs {Y : Sys} : ∀ (p : Os) (S : Sc) (X : Cx), Good Y S X → ∀ es, chkOs p S es = true → PA X es (tOs X.K (evOs Y p))
  | .nil, S, X, G, es, h => by
    rw [chkOs] at h
    dsimp only at h
    split at h
    · rw [evOs]; exact s_os0
    · cases h
  | .cons a r, S, X, G, es, h => by
    rw [chkOs] at h
    dsimp only at h
    split at h
    · simp only [Bool.and_eq_true] at h
      obtain ⟨h1, h2, h3⟩ := h
      rw [evOs]; exact s_os (sO a S X G _ h2) (sOs r S X G _ h3) (starEach_pl h1)
    · cases h
theorem sEs {Y : Sys} : ∀ (p : Es) (S : Sc) (X : Cx), Good Y S X → ∀ es, chkEs p S es = true → PA X es (tVs X.K (evEs Y p))
  | .nil, S, X, G, es, h => by
    rw [chkEs] at h
    dsimp only at h
    split at h
    · rw [evEs]; exact s_vs0
    · cases h
  | .cons a r, S, X, G, es, h => by
    rw [chkEs] at h
    dsimp only at h
    split at h
    · simp only [Bool.and_eq_true] at h
      obtain ⟨h1, h2, h3⟩ := h
      rw [evEs]; exact s_vs (sE a S X G _ h2) (sEs r S X G _ h3) (starEach_pl h1)
    · cases h
theorem sT {Y : Sys} : ∀ (p : T) (S : Sc) (X : Cx), Good Y S X → ∀ e, chkT p S e = true → PT X e (tT X.K (evT Y p)) ∧ PE X e (tE X.K (fTest (evT Y p)))
  | .cmp o a b, S, X, G, e, h => by
    rw [chkT] at h
    dsimp only at h
    split at h
    · simp only [Bool.and_eq_true, decide_eq_true_eq] at h
      obtain ⟨h1, h2, h3, h4⟩ := h
      subst h1
      rw [evT]
      exact ⟨s_cmpT o G.units (sO a S X G _ h3) (sO b S X G _ h4) (mark_pl h2), s_cmp o G.units (sO a S X G _ h3) (sO b S X G _ h4) (mark_pl h2)⟩
    · cases h
  | .chain o o' a b c, S, X, G, e, h => by
    rw [chkT] at h
    dsimp only at h
    split at h
    · simp only [Bool.and_eq_true, decide_eq_true_eq] at h
      obtain ⟨h1, h2, h3, h4, h5, h6⟩ := h
      subst h1 h2
      rw [evT]
      exact ⟨s_chainT o o' G.units (sO a S X G _ h4) (sO b S X G _ h5) (sO c S X G _ h6) (lastM h3), s_chain o o' G.units (sO a S X G _ h4) (sO b S X G _ h5) (sO c S X G _ h6) (lastM h3)⟩
    · cases h
  | .and ts, S, X, G, e, h => by
    rw [chkT] at h
    dsimp only at h
    split at h
    · simp only [Bool.and_eq_true, decide_eq_true_eq] at h
      obtain ⟨h1, h2⟩ := h
      subst h1
      obtain ⟨q1, q2⟩ := (sTs ts S X G _ h2).1 _
      rw [evT]
      exact ⟨q1.pt, q2⟩
    · cases h
  | .or ts, S, X, G, e, h => by
    rw [chkT] at h
    dsimp only at h
    split at h
    · simp only [Bool.and_eq_true, decide_eq_true_eq] at h
      obtain ⟨h1, h2⟩ := h
      subst h1
      obtain ⟨q1, q2⟩ := (sTs ts S X G _ h2).2 _
      rw [evT]
      exact ⟨q1.pt, q2⟩
    · cases h
  | .not t, S, X, G, e, h => by
    rw [chkT] at h
    dsimp only at h
    split at h
    · simp only [Bool.and_eq_true, decide_eq_true_eq] at h
      obtain ⟨h1, h2⟩ := h
      subst h1
      rw [evT]
      exact ⟨s_notT (sT t S X G _ h2).1, s_notE (sT t S X G _ h2).2⟩
    · cases h
  | .val q, S, X, G, e, h => by
    rw [chkT] at h
    dsimp only at h
    simp only [Bool.and_eq_true] at h
    obtain ⟨h1, h2⟩ := h
    rw [evT]
    exact ⟨s_valT (sE q S X G e h2) (true_pl h1), s_valE (sE q S X G e h2)⟩
theorem sTs {Y : Sys} : ∀ (p : Ts) (S : Sc) (X : Cx), Good Y S X → ∀ vs, chkTs p S vs = true →
    (∀ pos, PW X (.BoolOp .And vs pos) (tT X.K (evTs Y true p)) ∧ PE X (.BoolOp .And vs pos) (tE X.K (fTest (evTs Y true p)))) ∧
    (∀ pos, PW X (.BoolOp .Or vs pos) (tT X.K (evTs Y false p)) ∧ PE X (.BoolOp .Or vs pos) (tE X.K (fTest (evTs Y false p))))
  | .one t, S, X, G, vs, h => by
    rw [chkTs] at h
    dsimp only at h
    split at h
    · obtain ⟨a, b⟩ := sT t S X G _ h
      rw [evTs, evTs]
      exact ⟨fun pos => ⟨pw_and1 a, pe_one b⟩, fun pos => ⟨pw_or1 a, pe_one b⟩⟩
    · cases h
  | .cons t r, S, X, G, vs, h => by
    rw [chkTs] at h
    dsimp only at h
    split at h
    · simp only [Bool.and_eq_true] at h
      obtain ⟨h1, h2⟩ := h
      obtain ⟨a, b⟩ := sT t S X G _ h1
      obtain ⟨c, d⟩ := sTs r S X G _ h2
      rw [evTs, evTs, if_pos rfl, if_neg Bool.false_ne_true]
      exact ⟨fun pos => ⟨s_andT a (c pos).1, s_andE b (c pos).2⟩, fun pos => ⟨s_orT a (d pos).1, s_orE b (d pos).2⟩⟩
    · cases h
theorem sI {Y : Sys} : ∀ (p : I) (S : Sc) (X : Cx), Good Y S X → ∀ t e, chkI p S t e = true → PI X t e (tI X.K (weakI p) (evI Y p))
  | .seq q, S, X, G, t, e, h => by
    rw [chkI] at h
    dsimp only at h
    rw [evI]; exact s_seq (sE q S X G e h)
  | .rng1 as, S, X, G, t, e, h => by
    rw [chkI] at h
    dsimp only at h
    split at h
    · simp only [Bool.and_eq_true] at h
      obtain ⟨h1, h2, h3⟩ := h
      obtain ⟨b1, b2, b3⟩ := G.bl h1
      rw [evI]; exact s_rng1 b1 b2 b3 (sOs as S X G _ h3) (starEach_pl h2)
    · cases h
  | .rng2 as, S, X, G, t, e, h => by
    rw [chkI] at h
    dsimp only at h
    split at h
    · simp only [Bool.and_eq_true] at h
      obtain ⟨h1, h2, h3, h4⟩ := h
      obtain ⟨b1, b2, b3⟩ := G.bl h1
      rw [evI]; exact s_rng2 b1 b2 b3 (sOs as S X G _ h4) ((starEach_pl h2).trans (congrArg _ (starEach_pl h3))) (starEach_pl h3)
    · cases h
  | .zip as, S, X, G, t, e, h => by
    rw [chkI] at h
    dsimp only at h
    split at h
    · simp only [Bool.and_eq_true] at h
      obtain ⟨h1, h2, h3, h4⟩ := h
      obtain ⟨b1, b2, b3⟩ := G.bl h1
      rw [evI]; exact s_zip b1 b2 b3 (sEs as S X G _ h4) (starEach_pl h2) (backTo_pl (by rw [List.all_cons, h3]; rfl))
    · cases h
  | .rngB as, S, X, G, t, e, h => by
    rw [chkI] at h
    dsimp only at h
    split at h
    · simp only [Bool.and_eq_true] at h
      obtain ⟨h1, h2, h3, h4, h5⟩ := h
      obtain ⟨b1, b2, b3⟩ := G.bl h1
      rw [evI]; exact s_rngB b1 b2 b3 (sOs as S X G _ h5) (starEach_pl h2) (backTo_pl (by rw [List.all_cons, List.all_cons, h3, h4]; rfl))
    · cases h
  | .keys i, S, X, G, t, e, h => by
    rw [chkI] at h
    dsimp only at h
    split at h
    · rw [evI]; exact s_keys (G.vis h)
    · cases h
theorem sC {Y : Sys} : ∀ (p : C) (S : Sc) (X : Cx), Good Y S X → ∀ es, chkC p S es = true → PTs X es (tT X.K (evC Y p))
  | .yes, S, X, G, es, h => by
    rw [chkC] at h
    dsimp only at h
    split at h
    · rw [evC]; exact s_yes
    · cases h
  | .one t, S, X, G, es, h => by
    rw [chkC] at h
    dsimp only at h
    split at h
    · rw [evC]; exact pts_one (sT t S X G _ h).1
    · cases h
end
end Pf

set_option maxHeartbeats 4000000
namespace Pf
open PySem L2

/-! ### statements -/
inductive Ws where
  | nil
  | val (e : E) (r : Ws)
  | own (l : L) (r : Ws)
  | ownD (d : Dd) (r : Ws)
mutual
inductive S where
  | ret (e : E)
  | ife (t : T) (a b : B)
  | for (tg : Tg) (it : I) (b : B)
  | whl (t : T) (b : B)
  | asg (i : Nat) (e : E)
  | asgL (i : Nat) (l : L)
  | asgD (i : Nat) (d : Dd)
  | asgT (tg : Tg) (e : E)
  | par (is : List Nat) (ws : Ws)
  | app (i : Nat) (e : E)
  | ext (i : Nat) (e : E)
  | setI (i : Nat) (k : O) (e : E)
  | augL (i : Nat) (k v : O)
  | add (i : Nat) (v : O)
  | sub (i : Nat) (v : O)
  | putD (i : Nat) (k : O) (e : E)
  | augD (i : Nat) (k v : O)
  | brk
  | cont
  | pass
  | drop (e : E)
inductive B where
  | nil
  | cons (s : S) (r : B)
end
def evWs (Y : Sys) : Ws → M (List WI)
  | .nil => fW0
  | .val e r => fWv (evE Y e) (evWs Y r)
  | .own l r => fWl (evL Y l) (evWs Y r)
  | .ownD d r => fWd (evDd Y d) (evWs Y r)
mutual
def evS (Y : Sys) : S → MS
  | .ret e => fRet (evE Y e)
  | .ife t a b => fIf (evT Y t) (evB Y a) (evB Y b)
  | .for tg it b => fFor (evI Y it) (evG tg) (evB Y b)
  | .whl t b => loopW (evT Y t) (evB Y b) bigN
  | .asg i e => fAsg i (evE Y e)
  | .asgL i l => fAsgL i (evL Y l)
  | .asgD i d => fAsgD i (evDd Y d)
  | .asgT tg e => fAsgT (evG tg) (evE Y e)
  | .par is ws => fPar is (evWs Y ws)
  | .app i e => fApp i (evE Y e)
  | .ext i e => fExt i (evE Y e)
  | .setI i k e => fSetI i (evO Y k) (evE Y e)
  | .augL i k v => fAugL i (evO Y k) (evO Y v)
  | .add i v => fAugI i (fun x y => x + y) (evO Y v)
  | .sub i v => fAugI i (fun x y => x - y) (evO Y v)
  | .putD i k e => fPutD i (evO Y k) (evE Y e)
  | .augD i k v => fAugD i (evO Y k) (evO Y v)
  | .brk => fun en => some (.brk, en)
  | .cont => fun en => some (.cont, en)
  | .pass => fNext
  | .drop e => fDrop (evE Y e)
def evB (Y : Sys) : B → MS
  | .nil => fNext
  | .cons s r => fSeq2 (evS Y s) (evB Y r)
end
/-! #### the text -/
def notLcl (sc : Scope) : Expr → Bool
  | .Name x _ => !(kindB (sc.names.lookup x) .local)
  | _ => true
def noSwB (sc : Scope) (tg e : Expr) : Bool := match e with
  | .Tuple vs _ _ => match tg with
    | .Tuple ts _ _ => !(ts.length == 2 || ts.length == 3) || vs.all (foldedForSure 8) || ts.any (notLcl sc)
    | .List _ _ => false
    | _ => true
  | _ => true
theorem sw_none {tg e : Expr} {env : Env} (h : noSwB env.scope tg e = true) : swappedStores [tg] e env = pure none := by
  cases e with
  | Tuple vs k p =>
    cases tg with
    | Tuple ts k' p' =>
      simp only [noSwB, Bool.or_eq_true] at h
      unfold swappedStores
      dsimp only
      rcases h with (h | h) | h
      · rw [h]; rfl
      · rw [h]
        simp only [if_true]
        repeat' (first | rfl | split)
      · have hn : (List.filterMap (fun x : Expr => match x with
            | .Name id pos => if (env.kindOf id == some .local && pos.line == ((ts.head?.map (·.pos.line)).getD 0)) = true then some id else none
            | _ => none) ts).length ≠ ts.length := by
          obtain ⟨t, ht, hb⟩ := List.any_eq_true.mp h
          refine Nat.ne_of_lt (List.length_filterMap_lt_length_iff_exists.mpr ⟨t, ht, ?_⟩)
          cases t with
          | Name x p =>
            have hk : (env.kindOf x == some .local) = false := by
              simp only [notLcl, Bool.not_eq_true'] at hb
              refine Bool.eq_false_iff.mpr fun z => ?_
              have z' : env.scope.names.lookup x = some .local := eq_of_beq z
              rw [z'] at hb
              cases hb
            simp [hk]
          | _ => rfl
        split
        · rfl
        · split
          · rfl
          · rw [if_pos]
            simp only [Bool.or_eq_true, bne_iff_ne]
            exact .inl hn
    | List _ _ => cases h
    | _ => rfl
  | _ => cases tg <;> rfl
def funB (s : Scope) : Bool := match s.kind with
  | .function => true
  | _ => false
theorem funB_ok {s : Scope} (h : funB s = true) : s.kind = .function := by
  unfold funB at h
  split at h
  · assumption
  · cases h
theorem bk {env : Env} (h : env.scope.kind = .function) : env.blockKind = .function := by unfold Env.blockKind; rw [h]; rfl
theorem ko {env : Env} {x : Str} (h : env.scope.names.lookup x = some .local) : env.kindOf x = some .local := h
theorem star_any : ∀ {es : List Expr}, es.all plE = true → (es.any fun | .Starred .. => true | _ => false) = false
  | [], _ => rfl
  | e :: es, h => by
    rw [List.all_cons, Bool.and_eq_true] at h
    rw [List.any_cons, star_any h.2, Bool.or_false]
    have h1 := h.1
    cases e <;> first | rfl | exact nomatch h1
theorem ne_tt {b : Bool} (h : b = false) : ¬ b = true := by rw [h]; exact Bool.false_ne_true
theorem sw2 {x y : Str} {px py kt pt a b k2 pt2} {env : Env} (hk : env.scope.kind = .function) (hx : env.scope.names.lookup x = some .local) (hy : env.scope.names.lookup y = some .local) (hne : x ≠ y) (hl : py.line = px.line) (pa : [a, b].all plE = true)
    (h1 : [a, b].all (foldedForSure 8) = false) (h2 : [a, b].all (constantsAlone 8) = false) : swappedStores [.Tuple [.Name x px, .Name y py] kt pt] (.Tuple [a, b] k2 pt2) env = pure (some [x, y]) := by
  have hn : ¬ (y = x) := fun e => hne e.symm
  unfold swappedStores
  dsimp only
  refine (if_neg (by simp [bk hk])).trans ((if_neg (ne_tt (star_any pa))).trans ?_)
  refine (if_neg (by simp [ko hx, ko hy, hl, Expr.pos, List.eraseDups_cons, hn, hne])).trans ((if_neg (ne_tt h1)).trans ((if_neg (ne_tt h2)).trans ?_))
  simp [ko hx, ko hy, hl, Expr.pos]
theorem sw3 {x y z : Str} {px py pz kt pt a b c k2 pt2} {env : Env} (hk : env.scope.kind = .function) (hx : env.scope.names.lookup x = some .local) (hy : env.scope.names.lookup y = some .local) (hz : env.scope.names.lookup z = some .local) (hne : x ≠ y) (hxz : x ≠ z) (hyz : y ≠ z)
    (hl : py.line = px.line) (hl' : pz.line = px.line) (pa : [a, b, c].all plE = true)
    (h1 : [a, b, c].all (foldedForSure 8) = false) (h2 : [a, b, c].all (constantsAlone 8) = false) : swappedStores [.Tuple [.Name x px, .Name y py, .Name z pz] kt pt] (.Tuple [a, b, c] k2 pt2) env = pure (some [x, y, z]) := by
  have hn : ¬ (y = x) := fun e => hne e.symm
  have hn1 : ¬ (z = x) := fun e => hxz e.symm
  have hn2 : ¬ (z = y) := fun e => hyz e.symm
  unfold swappedStores
  dsimp only
  refine (if_neg (by simp [bk hk])).trans ((if_neg (ne_tt (star_any pa))).trans ?_)
  refine (if_neg (by simp [ko hx, ko hy, ko hz, hl, hl', Expr.pos, List.eraseDups_cons, hn, hne, hn1, hn2, hxz, hyz])).trans ((if_neg (ne_tt h1)).trans ((if_neg (ne_tt h2)).trans ?_))
  simp [ko hx, ko hy, ko hz, hl, hl', Expr.pos]
def lcSw (S : Sc) (x : Str) (py : Pos) (scope : Scope) (pos : Pos) : Bool := kindB (S.sc.names.lookup x) .local && (py.line == pos.line) && !(scope.names.any fun (n, k) => n == x && (k == .local || k == .cell))
theorem sw_lcF {elt : Expr} {gs : List Comprehension} {scope : Scope} {pos py : Pos} {y : Str} {l : Nat} {env : Env} (h : (decide (env.scope.names.lookup y = some .local) && (py.line == pos.line) && !(scope.names.any fun (n, k) => n == y && (k == .local || k == .cell))) = false) :
    swapsWith (.ListComp elt gs scope pos) (some (.Name y py)) l env = pure false := by
  show pure _ = pure _
  congr 1
  have e : (env.kindOf y == some .local) = decide (env.scope.names.lookup y = some .local) := by
    by_cases z : env.scope.names.lookup y = some .local
    · rw [decide_eq_true z]; exact beq_iff_eq.mpr z
    · rw [decide_eq_false z]; exact beq_eq_false_iff_ne.mpr z
  show ((env.blockKind == .function) && (env.kindOf y == some .local) && (py.line == pos.line) && !_) = false
  rw [e, Bool.and_assoc, Bool.and_assoc]
  rw [Bool.and_assoc] at h
  rw [h, Bool.and_false]
end Pf

set_option maxHeartbeats 4000000
namespace Pf
open PySem L2

def lclB (S : Sc) (i : Nat) (x : Str) : Bool := decide (S.N[i]? = some x) && kindB (S.sc.names.lookup x) .local
def chkWs : Ws → Sc → List Expr → Bool
  | .nil => fun _ es => match es with
    | [] => true
    | _ => false
  | .val a r => fun S es => match es with
    | e :: es => plE e && (chkE a S e && chkWs r S es)
    | [] => false
  | .own a r => fun S es => match es with
    | e :: es => plE e && (chkL a S e && chkWs r S es)
    | [] => false
  | .ownD a r => fun S es => match es with
    | e :: es => plE e && (chkDd a S e && chkWs r S es)
    | [] => false
def lcAs (i : Nat) (l : L) (S : Sc) (x : Str) (py : Pos) (e : Expr) : Bool := match l, e with
  | .comp elt tg it c own, .ListComp y [⟨t, it', ifs, a⟩] scope pos => decide (a = 0) && (blkC S.N S.sc scope own && ((ixG tg).all (fun j => decide (j ∈ own.map (·.2))) && (plM it' && (chkI it S t it' && (chkG tg (S.blk scope) t && (chkC c (S.blk scope) ifs && chkE elt (S.blk scope) y))))))
      && (if lcSw S x py scope pos = true then funB S.sc && lclB S i x else locB S i x)
  | _, _ => plS e && (locB S i x && chkL l S e)
mutual
def chkS : S → Sc → Stmt → Bool
  | .ret e => fun S st => match st with
    | .Return (some x) _ => chkE e S x
    | _ => false
  | .ife t a b => fun S st => match st with
    | .If c xs ys _ => chkT t S c && (chkB a S xs && chkB b S ys)
    | _ => false
  | .for tg it b => fun S st => match st with
    | .For g i xs [] _ => plM i && (chkI it S g i && (chkG tg S g && chkB b S xs))
    | _ => false
  | .whl t b => fun S st => match st with
    | .While c xs [] _ => chkT t S c && chkB b S xs
    | _ => false
  | .asg i e => fun S st => match st with
    | .Assign [.Name x _] v _ => plS v && (locB S i x && chkE e S v)
    | _ => false
  | .asgL i l => fun S st => match st with
    | .Assign [.Name x p] v _ => lcAs i l S x p v
    | _ => false
  | .asgD i d => fun S st => match st with
    | .Assign [.Name x _] v _ => plS v && (locB S i x && chkDd d S v)
    | _ => false
  | .asgT tg e => fun S st => match st with
    | .Assign [g] v _ => plS v && (plE g && (noSwB S.sc g v && (chkG tg S g && chkE e S v)))
    | _ => false
  | .par is ws => fun S st => match st with
    | .Assign [.Tuple [.Name x px, .Name y py] _ _] (.Tuple [a, b] _ _) _ => (match is with
      | [i, j] => decide (i ≠ j) && (funB S.sc && (lclB S i x && (lclB S j y && (decide (x ≠ y) && (decide (py.line = px.line) && ([a, b].all plE && (!([a, b].all (foldedForSure 8)) && (!([a, b].all (constantsAlone 8)) && chkWs ws S [a, b]))))))))
      | _ => false)
    | .Assign [.Tuple [.Name x px, .Name y py, .Name z pz] _ _] (.Tuple [a, b, c] _ _) _ => (match is with
      | [i, j, k] => decide (i ≠ j) && (decide (i ≠ k) && (decide (j ≠ k) && (funB S.sc && (lclB S i x && (lclB S j y && (lclB S k z && (decide (x ≠ y) && (decide (x ≠ z) && (decide (y ≠ z) && (decide (py.line = px.line) && (decide (pz.line = px.line) &&
        ([a, b, c].all plE && (!([a, b, c].all (foldedForSure 8)) && (!([a, b, c].all (constantsAlone 8)) && chkWs ws S [a, b, c]))))))))))))))
      | _ => false)
    | _ => false
  | .app i e => fun S st => match st with
    | .Expr (.Call (.Attribute (.Name x _) a apos) [v] [] cpos) _ => decide (a = "append") && (visB S i x && (plE v && ((apos.endLine == cpos.line) && chkE e S v)))
    | _ => false
  | .ext i e => fun S st => match st with
    | .Expr (.Call (.Attribute (.Name x _) a apos) [v] [] cpos) _ => decide (a = "extend") && (visB S i x && (plE v && ((apos.endLine == cpos.line) && chkE e S v)))
    | _ => false
  | .setI i k e => fun S st => match st with
    | .Assign [.Subscript (.Name x _) y _] v _ => plS v && (plIx y && (visB S i x && (chkO k S y && chkE e S v)))
    | _ => false
  | .augL i k b => fun S st => match st with
    | .AugAssign (.Subscript (.Name x _) y _) op v _ => decide (op = .Add) && (plIx y && (visB S i x && (chkO k S y && chkO b S v)))
    | _ => false
  | .add i b => fun S st => match st with
    | .AugAssign (.Name x _) op v _ => decide (op = .Add) && (locB S i x && chkO b S v)
    | _ => false
  | .sub i b => fun S st => match st with
    | .AugAssign (.Name x _) op v _ => decide (op = .Sub) && (locB S i x && chkO b S v)
    | _ => false
  | .putD i k e => fun S st => match st with
    | .Assign [.Subscript (.Name x _) y _] v _ => plS v && (visB S i x && (chkO k S y && chkE e S v))
    | _ => false
  | .augD i k b => fun S st => match st with
    | .AugAssign (.Subscript (.Name x _) y _) op v _ => decide (op = .Add) && (plIx y && (visB S i x && (chkO k S y && chkO b S v)))
    | _ => false
  | .brk => fun _ st => match st with
    | .Break _ => true
    | _ => false
  | .cont => fun _ st => match st with
    | .Continue _ => true
    | _ => false
  | .pass => fun _ st => match st with
    | .Pass _ => true
    | _ => false
  | .drop e => fun S st => match st with
    | .Expr x _ => plS x && chkE e S x
    | _ => false
def chkB : B → Sc → List Stmt → Bool
  | .nil => fun _ sts => match sts with
    | [] => true
    | _ => false
  | .cons s r => fun S sts => match sts with
    | st :: sts => chkS s S st && chkB r S sts
    | [] => false
end
theorem Good.lcl {Y : Sys} {S : Sc} {X : Cx} (G : Good Y S X) {i : Nat} {x : Str} (h : lclB S i x = true) : X.N[i]? = some x ∧ X.env.scope.names.lookup x = some .local := by
  unfold lclB at h
  simp only [Bool.and_eq_true, decide_eq_true_eq] at h
  exact ⟨by rw [G.hN]; exact h.1, by rw [G.sc]; exact kindB_ok h.2⟩
def lenW : Ws → Nat
  | .nil => 0
  | .val _ r => lenW r + 1
  | .own _ r => lenW r + 1
  | .ownD _ r => lenW r + 1
theorem evWs_len {Y : Sys} : ∀ (p : Ws) {en en' : En} {os : List WI}, evWs Y p en = some (os, en') → os.length = lenW p
  | .nil, _, _, _, h => by cases h; rfl
  | .val e r, _, _, _, h => by
    obtain ⟨⟨o1, en1⟩, h1, hf⟩ := Option.bind_eq_some_iff.mp h
    obtain ⟨⟨o2, en2⟩, h2, hf⟩ := Option.bind_eq_some_iff.mp hf
    cases hf
    exact congrArg Nat.succ (evWs_len r h2)
  | .own e r, _, _, _, h => by
    obtain ⟨⟨o1, en1⟩, h1, hf⟩ := Option.bind_eq_some_iff.mp h
    obtain ⟨⟨o2, en2⟩, h2, hf⟩ := Option.bind_eq_some_iff.mp hf
    cases hf
    exact congrArg Nat.succ (evWs_len r h2)
  | .ownD e r, _, _, _, h => by
    obtain ⟨⟨o1, en1⟩, h1, hf⟩ := Option.bind_eq_some_iff.mp h
    obtain ⟨⟨o2, en2⟩, h2, hf⟩ := Option.bind_eq_some_iff.mp hf
    cases hf
    exact congrArg Nat.succ (evWs_len r h2)
theorem chkWs_len : ∀ (p : Ws) (S : Sc) (es : List Expr), chkWs p S es = true → lenW p = es.length
  | .nil, S, es, h => by
    rw [chkWs] at h
    dsimp only at h
    split at h
    · rfl
    · cases h
  | .val a r, S, es, h => by
    rw [chkWs] at h
    dsimp only at h
    split at h
    · simp only [Bool.and_eq_true] at h
      exact congrArg Nat.succ (chkWs_len r S _ h.2.2)
    · cases h
  | .own a r, S, es, h => by
    rw [chkWs] at h
    dsimp only at h
    split at h
    · simp only [Bool.and_eq_true] at h
      exact congrArg Nat.succ (chkWs_len r S _ h.2.2)
    · cases h
  | .ownD a r, S, es, h => by
    rw [chkWs] at h
    dsimp only at h
    split at h
    · simp only [Bool.and_eq_true] at h
      exact congrArg Nat.succ (chkWs_len r S _ h.2.2)
    · cases h
theorem sWs {Y : Sys} : ∀ (p : Ws) (S : Sc) (X : Cx), Good Y S X → ∀ es, chkWs p S es = true → PA X es (tW X.K (evWs Y p))
  | .nil, S, X, G, es, h => by
    rw [chkWs] at h
    dsimp only at h
    split at h
    · exact s_w0
    · cases h
  | .val a r, S, X, G, es, h => by
    rw [chkWs] at h
    dsimp only at h
    split at h
    · simp only [Bool.and_eq_true] at h
      exact s_wv (sE a S X G _ h.2.1) (sWs r S X G _ h.2.2) (starEach_pl h.1)
    · cases h
  | .own a r, S, X, G, es, h => by
    rw [chkWs] at h
    dsimp only at h
    split at h
    · simp only [Bool.and_eq_true] at h
      exact s_wl (sL a S X G _ h.2.1) (fun _ _ _ h => h) (sWs r S X G _ h.2.2) (starEach_pl h.1)
    · cases h
  | .ownD a r, S, X, G, es, h => by
    rw [chkWs] at h
    dsimp only at h
    split at h
    · simp only [Bool.and_eq_true] at h
      exact s_wd (sDd a S X G _ h.2.1) (sWs r S X G _ h.2.2) (starEach_pl h.1)
    · cases h
theorem sub_pl {o i : Expr} {pos : Pos} {env : Env} (h : plIx i = true) : ∀ v, assign (.Subscript o i pos) env v = (do
      let ov ← holding [v] (eval o env)
      let iv ← holding [v, ov] (eval i env)
      standAt pos
      holding [v, ov, iv] (setItem ov iv v)
      release [v, ov, iv] []) := by
  cases i <;> first | (intro v; rfl) | cases h
theorem aug_pl {i : Expr} (h : plIx i = true) : ∀ ov iv new, augStore i ov iv new = (do holding [new, ov, iv] (setItem ov iv new); release [new, ov, iv] []; pure .next) := by
  cases i <;> first | (intro _ _ _; rfl) | cases h
theorem one_pl {e : Expr} {env : Env} (h : plE e = true) : (assignEach [e] env).map (·.2) = [assign e env] := by
  cases e <;> first | rfl | cases h
theorem par2 {X : Cx} {Y : Sys} {ws : Ws} {i j : Nat} (hl : lenW ws = 2) : ∀ (D : Ends) (σ : L2.St) (H : Hp), tW X.K (evWs Y ws) σ H (fun vs H1 => vs.length = [i, j].length → D.nx (setVs [i, j] vs σ) H1) → tPar i j (tW X.K (evWs Y ws)) D σ H := fun D σ H ⟨G, en, os, en', R, hf, k⟩ =>
  ⟨G, en, os, en', R, hf, fun vs G' H' s q => by
    have h1 := k vs G' H' s q
    have h2 := q.length.trans ((evWs_len ws hf).trans hl)
    match vs, h2, h1 with
    | [v, w], _, h1 => exact ⟨v, w, rfl, h1 rfl⟩⟩
theorem par3 {X : Cx} {Y : Sys} {ws : Ws} {i j l : Nat} (hl : lenW ws = 3) : ∀ (D : Ends) (σ : L2.St) (H : Hp), tW X.K (evWs Y ws) σ H (fun vs H1 => vs.length = [i, j, l].length → D.nx (setVs [i, j, l] vs σ) H1) → tPar3 i j l (tW X.K (evWs Y ws)) D σ H := fun D σ H ⟨G, en, os, en', R, hf, k⟩ =>
  ⟨G, en, os, en', R, hf, fun vs G' H' s q => by
    have h1 := k vs G' H' s q
    have h2 := q.length.trans ((evWs_len ws hf).trans hl)
    match vs, h2, h1 with
    | [v, w, u], _, h1 => exact ⟨v, w, u, rfl, h1 rfl⟩⟩
theorem swapS_pl {t e : Expr} {l : Nat} {env : Env} (h : plS e = true) : swapsWithSole [t] e l env = pure false := swap_pl (t := some t) h
theorem noS {sc : Scope} {a b : Expr} {p : Pos} (e : Expr) : noSwB sc (.Subscript a b p) e = true := by cases e <;> rfl
theorem never {X : Cx} (hx : X.xe = fun _ _ => False) : PassesOwn (model X.prog X.w) X.A X.env X.xe := by rw [hx]; exact PassesOwn.never
theorem few_pl {e : Expr} {env : Env} {cpos : Pos} (h : plE e = true) : ((backTo cpos (starEach [e] env)).all (fun x => !x.1) && (backToKw cpos (keywordEach [] env)).all (fun x => x.1.isSome)
      && decide (([e] : List Expr).length + ([] : List Keyword).length + (if ([] : List Keyword).isEmpty then 0 else 1) < 30)) = true := by
  rw [starEach_pl h]; rfl
mutual
theorem sS {Y : Sys} : ∀ (p : S) (S : Sc) (X : Cx), Good Y S X → (X.xe = fun _ _ => False) → ∀ st, chkS p S st = true → PS X st (tS X.K (evS Y p))
  | .ret e, S, X, G, hx, st, h => by
    rw [chkS] at h
    dsimp only at h
    split at h
    · rw [evS]; exact s_ret (sE e S X G _ h)
    · cases h
  | .ife t a b, S, X, G, hx, st, h => by
    rw [chkS] at h
    dsimp only at h
    split at h
    · simp only [Bool.and_eq_true] at h
      rw [evS]; exact s_if (sT t S X G _ h.1).1 (sB a S X G hx _ h.2.1) (sB b S X G hx _ h.2.2)
    · cases h
  | .for tg it b, S, X, G, hx, st, h => by
    rw [chkS] at h
    dsimp only at h
    split at h
    · simp only [Bool.and_eq_true] at h
      obtain ⟨h1, h2, h3, h4⟩ := h
      rw [evS]; exact s_for (never hx) G.calm (sI it S X G _ _ h2) (sG tg S X G _ (weak_tup h2 h3) _ h3) (sB b S X G hx _ h4) (fold_pl h1)
    · cases h
  | .whl t b, S, X, G, hx, st, h => by
    rw [chkS] at h
    dsimp only at h
    split at h
    · simp only [Bool.and_eq_true] at h
      rw [evS]; exact s_while (never hx) (sT t S X G _ h.1).1 (sB b S X G hx _ h.2)
    · cases h
  | .asg i e, S, X, G, hx, st, h => by
    rw [chkS] at h
    dsimp only at h
    split at h
    · simp only [Bool.and_eq_true] at h
      obtain ⟨h1, h2, h3⟩ := h
      obtain ⟨a1, a2, a3⟩ := G.loc h2
      rw [evS]; exact s_asg (ps_set G.nd a1 a2 (sE e S X G _ h3) (swap_pl h1) a3) fun _ _ _ h => h
    · cases h
  | .asgL i l, S, X, G, hx, st, h => by
    rw [chkS] at h
    dsimp only at h
    split at h
    · rename_i x p v pos
      unfold lcAs at h
      split at h
      · rename_i elt tg it c own y t it' ifs a scope lpos
        simp only [Bool.and_eq_true, decide_eq_true_eq] at h
        obtain ⟨⟨h0, h1, h2, h3, h4, h5, h6, h7⟩, h8⟩ := h
        subst h0
        rw [evS, evL]
        have hb : BlkOk X.N X.env.scope scope own := by rw [G.hN, G.sc]; exact blkOk_by h1
        have hi : ∀ i ∈ ixG tg, i ∈ own.map (·.2) := fun i hi => of_decide_eq_true (List.all_eq_true.mp h2 i hi)
        by_cases hs : lcSw S x p scope lpos = true
        · rw [if_pos hs] at h8
          simp only [Bool.and_eq_true] at h8
          obtain ⟨a1, a2⟩ := G.lcl h8.2
          unfold lcSw at hs
          simp only [Bool.and_eq_true, Bool.not_eq_true'] at hs
          refine s_asgL (ps_setLc (own := own) G.calm G.nd a1 a2 (sw_true (by rw [G.sc]; exact funB_ok h8.1) a2 hs.1.2 hs.2) (sI it S X G _ _ h4) hb (fun s H C cl fp => sG tg _ _ (G.blk _ s H cl C fp) _ (weak_tup h4 h5) _ h5) (fun s H C cl fp => sC c _ _ (G.blk _ s H cl C fp) _ h6)
            (fun s H C cl fp => sE elt _ _ (G.blk _ s H cl C fp) _ h7) (fold_pl h3)) (lc_read hi)
        · rw [if_neg hs] at h8
          obtain ⟨a1, a2, a3⟩ := G.loc h8
          refine s_asgL (ps_set G.nd a1 a2 (pe_lc (own := own) G.calm G.nd (sI it S X G _ _ h4) hb (fun s H C cl fp => sG tg _ _ (G.blk _ s H cl C fp) _ (weak_tup h4 h5) _ h5) (fun s H C cl fp => sC c _ _ (G.blk _ s H cl C fp) _ h6)
            (fun s H C cl fp => sE elt _ _ (G.blk _ s H cl C fp) _ h7) (fold_pl h3)) (sw_lcF ?_) a3) (lc_read hi)
          rw [G.sc]
          refine Bool.eq_false_iff.mpr fun z => hs ?_
          unfold lcSw
          simp only [Bool.and_eq_true, decide_eq_true_eq] at z ⊢
          refine ⟨⟨?_, z.1.2⟩, z.2⟩
          rw [z.1.1]
          rfl
      · simp only [Bool.and_eq_true] at h
        obtain ⟨h1, h2, h3⟩ := h
        obtain ⟨a1, a2, a3⟩ := G.loc h2
        rw [evS]; exact s_asgL (ps_set G.nd a1 a2 (sL l S X G _ h3) (swap_pl h1) a3) fun _ _ _ h => h
    · cases h
  | .asgD i d, S, X, G, hx, st, h => by
    rw [chkS] at h
    dsimp only at h
    split at h
    · simp only [Bool.and_eq_true] at h
      obtain ⟨h1, h2, h3⟩ := h
      obtain ⟨a1, a2, a3⟩ := G.loc h2
      rw [evS]; exact s_asgD (ps_set G.nd a1 a2 (sDd d S X G _ h3) (swap_pl h1) a3) fun _ _ _ h => h
    · cases h
  | .asgT tg e, S, X, G, hx, st, h => by
    rw [chkS] at h
    dsimp only at h
    split at h
    · simp only [Bool.and_eq_true] at h
      obtain ⟨h1, h2, h3, h4, h5⟩ := h
      rw [evS]; exact s_asgT (sE e S X G _ h5) (sG tg S X G false (fun z => by cases z) _ h4) (swap_pl h1) (sw_none (by rw [G.sc]; exact h3)) (one_pl h2)
    · cases h
  | .par is ws, S, X, G, hx, st, h => by
    rw [chkS] at h
    dsimp only at h
    split at h
    · split at h
      · rename_i i j
        simp only [Bool.and_eq_true, decide_eq_true_eq, Bool.not_eq_true'] at h
        obtain ⟨h1, h2, h3, h4, h5, h6, h7, h8, h9, h10⟩ := h
        obtain ⟨a1, a2⟩ := G.lcl h3
        obtain ⟨b1, b2⟩ := G.lcl h4
        rw [evS]
        exact s_par (ta := fun _ t => tPar i j t) (ps_par G.calm G.nd a1 b1 h1 a2 b2 (sWs ws S X G _ h10) (sw2 (by rw [G.sc]; exact funB_ok h2) a2 b2 h5 h6 h7 h8 h9)) (par2 (chkWs_len ws S _ h10))
      · cases h
    · split at h
      · rename_i i j k
        simp only [Bool.and_eq_true, decide_eq_true_eq, Bool.not_eq_true'] at h
        obtain ⟨h1, h2, h3, h4, h5, h6, h7, h8, h9, h10, h11, h12, h13, h14, h15, h16⟩ := h
        obtain ⟨a1, a2⟩ := G.lcl h5
        obtain ⟨b1, b2⟩ := G.lcl h6
        obtain ⟨c1, c2⟩ := G.lcl h7
        rw [evS]
        exact s_par (ta := fun _ t => tPar3 i j k t) (ps_par3 G.calm G.nd a1 b1 c1 h1 h2 h3 a2 b2 c2 (sWs ws S X G _ h16) (sw3 (by rw [G.sc]; exact funB_ok h4) a2 b2 c2 h8 h9 h10 h11 h12 h13 h14 h15)) (par3 (chkWs_len ws S _ h16))
      · cases h
    · cases h
  | .app i e, S, X, G, hx, st, h => by
    rw [chkS] at h
    dsimp only at h
    split at h
    · simp only [Bool.and_eq_true, decide_eq_true_eq] at h
      obtain ⟨h1, h2, h3, h4, h5⟩ := h
      subst h1
      rw [evS]
      exact s_app (ps_expr (pe_bm PySem.F.plainAttrs_list PySem.F.slot_list_append PySem.F.type_list_append mt_append (G.vis h2) (pa_cons (sE e S X G _ h5) pa_nil (starEach_pl h3)) rfl (few_pl h3) h4 (starEach_pl h3) rfl)) fun _ _ _ h => h
    · cases h
  | .ext i e, S, X, G, hx, st, h => by
    rw [chkS] at h
    dsimp only at h
    split at h
    · simp only [Bool.and_eq_true, decide_eq_true_eq] at h
      obtain ⟨h1, h2, h3, h4, h5⟩ := h
      subst h1
      rw [evS]
      exact s_ext (ps_expr (pe_bm PySem.F.plainAttrs_list PySem.F.slot_list_extend PySem.F.type_list_extend mt_extend (G.vis h2) (pa_cons (sE e S X G _ h5) pa_nil (starEach_pl h3)) rfl (few_pl h3) h4 (starEach_pl h3) rfl)) fun _ _ _ h => h
    · cases h
  | .setI i k e, S, X, G, hx, st, h => by
    rw [chkS] at h
    dsimp only at h
    split at h
    · simp only [Bool.and_eq_true] at h
      obtain ⟨h1, h2, h3, h4, h5⟩ := h
      rw [evS]
      exact s_setI (ps_asg (sE e S X G _ h5) (pg_sub (G.vis h3) (sO k S X G _ h4) set_list (sub_pl h2)) (swapS_pl h1) (sw_none (noS _)) (one_pl rfl))
    · cases h
  | .augL i k b, S, X, G, hx, st, h => by
    rw [chkS] at h
    dsimp only at h
    split at h
    · simp only [Bool.and_eq_true, decide_eq_true_eq] at h
      obtain ⟨h1, h2, h3, h4, h5⟩ := h
      subst h1
      rw [evS]
      exact s_augL (ps_augS (G.vis h3) (sO k S X G _ h4) get_list (sO b S X G _ h5) ip_add set_list (aug_pl h2))
    · cases h
  | .add i b, S, X, G, hx, st, h => by
    rw [chkS] at h
    dsimp only at h
    split at h
    · simp only [Bool.and_eq_true, decide_eq_true_eq] at h
      obtain ⟨h1, h2, h3⟩ := h
      subst h1
      obtain ⟨a1, a2, a3⟩ := G.loc h2
      rw [evS]
      exact s_augI (ps_aug G.nd a1 a2 (sO b S X G _ h3) ip_add a3)
    · cases h
  | .sub i b, S, X, G, hx, st, h => by
    rw [chkS] at h
    dsimp only at h
    split at h
    · simp only [Bool.and_eq_true, decide_eq_true_eq] at h
      obtain ⟨h1, h2, h3⟩ := h
      subst h1
      obtain ⟨a1, a2, a3⟩ := G.loc h2
      rw [evS]
      exact s_augI (ps_aug G.nd a1 a2 (sO b S X G _ h3) ip_sub a3)
    · cases h
  | .putD i k e, S, X, G, hx, st, h => by
    rw [chkS] at h
    dsimp only at h
    split at h
    · simp only [Bool.and_eq_true] at h
      obtain ⟨h1, h2, h3, h4⟩ := h
      rw [evS]
      exact s_putD (ps_dput (by have := G.units; omega) (G.vis h2) (sO k S X G _ h3) (sE e S X G _ h4) (swap_pl h1))
    · cases h
  | .augD i k b, S, X, G, hx, st, h => by
    rw [chkS] at h
    dsimp only at h
    split at h
    · simp only [Bool.and_eq_true, decide_eq_true_eq] at h
      obtain ⟨h1, h2, h3, h4, h5⟩ := h
      subst h1
      rw [evS]
      exact s_augD (ps_daug (by have := G.units; omega) (G.vis h3) (sO k S X G _ h4) (sO b S X G _ h5) in_add (aug_pl h2))
    · cases h
  | .brk, S, X, G, hx, st, h => by
    rw [chkS] at h
    dsimp only at h
    split at h
    · rw [evS]; exact s_brk
    · cases h
  | .cont, S, X, G, hx, st, h => by
    rw [chkS] at h
    dsimp only at h
    split at h
    · rw [evS]; exact s_cont
    · cases h
  | .pass, S, X, G, hx, st, h => by
    rw [chkS] at h
    dsimp only at h
    split at h
    · rw [evS]; exact s_pass
    · cases h
  | .drop e, S, X, G, hx, st, h => by
    rw [chkS] at h
    dsimp only at h
    split at h
    · simp only [Bool.and_eq_true] at h
      rw [evS]; exact s_drop (sE e S X G _ h.2) (swap_pl h.1)
    · cases h
theorem sB {Y : Sys} : ∀ (p : B) (S : Sc) (X : Cx), Good Y S X → (X.xe = fun _ _ => False) → ∀ sts, chkB p S sts = true → PSs X sts (tS X.K (evB Y p))
  | .nil, S, X, G, hx, sts, h => by
    rw [chkB] at h
    dsimp only at h
    split at h
    · rw [evB]; exact s_nil
    · cases h
  | .cons s r, S, X, G, hx, sts, h => by
    rw [chkB] at h
    dsimp only at h
    split at h
    · simp only [Bool.and_eq_true] at h
      rw [evB]; exact s_cons (sS s S X G hx _ h.1) (sB r S X G hx _ h.2)
    · cases h
end
end Pf

set_option maxHeartbeats 4000000
namespace Pf
open PySem L2

/-! ### the defs' table -/
structure Fd where
  np : Nat
  ns : Nat
  body : B
def fdF (Y : Sys) : Option Fd → Nat × Fnc
  | some d => (d.np, fBody d.np d.ns (evB Y d.body))
  | none => (0, fun _ => none)
def tabS (T : List Fd) (C : Nat → D) : Nat → Sys
  | 0 => ⟨fun j => ((fdF ⟨fun _ => (0, fun _ => none), C⟩ T[j]?).1, fun _ => none), C⟩
  | n + 1 => ⟨fun j => fdF (tabS T C n) T[j]?, C⟩
theorem fdF_np {Y Y' : Sys} : ∀ {o : Option Fd}, (fdF Y o).1 = (fdF Y' o).1
  | some _ => rfl
  | none => rfl
theorem tabS_np {T : List Fd} {C : Nat → D} {j : Nat} {d : Fd} (h : T[j]? = some d) : ∀ n, ((tabS T C n).f j).1 = d.np
  | 0 => by show (fdF _ T[j]?).1 = _; rw [h]; rfl
  | n + 1 => by show (fdF _ T[j]?).1 = _; rw [h]; rfl
theorem tabS_c {T : List Fd} {C : Nat → D} : ∀ n, (tabS T C n).c = C
  | 0 => rfl
  | n + 1 => rfl
/-- the text of the j-th def, and what the top has written of it -/
structure FdOk (K : PySem.W.Frag) (mg : Str → Option Value) (gl : List (Str × GK)) (d : Fd) (j : Nat) : Prop where
  ex : ∃ (x : Str) (st : Stmt) (ps N : List Str) (f : Addr) (fd : FuncData), d.np = ps.length ∧ d.ns = N.length ∧ mg x = some (.ref f) ∧ Fun K x x st f fd ∧ FnScope N ps (defScope st) ∧ Binds K fd ps [] ∧
    chkB d.body ⟨N, defScope st, none, gl⟩ (defBody st) = true ∧ ∀ y, gl.lookup y = some (.fn j) → y = x
def isFn (j : Nat) : GK → Bool
  | .fn i => decide (i = j)
  | _ => false
def nmB (gl : List (Str × GK)) (j : Nat) (x : Str) : Bool := gl.all fun p => !(isFn j p.2) || decide (p.1 = x)
theorem lookup_mem {α : Type} {x : Str} {b : α} : ∀ {l : List (Str × α)}, l.lookup x = some b → (x, b) ∈ l
  | [], h => by cases h
  | p :: l, h => by
    rw [List.lookup_cons] at h
    split at h
    · rename_i z
      cases h
      rw [eq_of_beq z]
      exact List.mem_cons_self
    · exact List.mem_cons_of_mem _ (lookup_mem h)
theorem nmB_ok {gl : List (Str × GK)} {j : Nat} {x : Str} (h : nmB gl j x = true) : ∀ y, gl.lookup y = some (.fn j) → y = x := fun y hy => by
  have z := List.all_eq_true.mp h _ (lookup_mem hy)
  simpa [isFn] using z
theorem fd_mk {K : PySem.W.Frag} {mg : Str → Option Value} {gl : List (Str × GK)} {d : Fd} {j : Nat} {x : Str} {st : Stmt} {ps N : List Str} {f : Addr} {fd : FuncData} (m : mg x = some (.ref f)) (F : Fun K x x st f fd) (S : FnScope N ps (defScope st)) (b : Binds K fd ps [])
    (hc : chkB d.body ⟨N, defScope st, none, gl⟩ (defBody st) = true) (hn : nmB gl j x = true) (h1 : d.np = ps.length) (h2 : d.ns = N.length) : FdOk K mg gl d j :=
  ⟨x, st, ps, N, f, fd, h1, h2, m, F, S, b, hc, nmB_ok hn⟩
inductive TabOk (K : PySem.W.Frag) (mg : Str → Option Value) (gl : List (Str × GK)) : Nat → List Fd → Prop
  | nil {j : Nat} : TabOk K mg gl j []
  | cons {j : Nat} {d : Fd} {T : List Fd} : FdOk K mg gl d j → TabOk K mg gl (j + 1) T → TabOk K mg gl j (d :: T)
theorem TabOk.get {K : PySem.W.Frag} {mg : Str → Option Value} {gl : List (Str × GK)} : ∀ {T : List Fd} {i j : Nat} {d : Fd}, TabOk K mg gl i T → T[j]? = some d → FdOk K mg gl d (i + j)
  | [], _, _, _, _, h => by simp at h
  | e :: T, i, 0, d, .cons a _, h => by cases h; exact a
  | e :: T, i, j + 1, d, .cons _ b, h => by
    have z := b.get (j := j) (d := d) h
    rw [show i + (j + 1) = i + 1 + j by omega]
    exact z
/-- what the look says of names -/
structure GlOk (K : PySem.W.Frag) (mg : Str → Option Value) (gl : List (Str × GK)) (T : List Fd) (C : Nat → D) : Prop where
  blt : ∀ x, isBlt (gl.lookup x) = true → mg x = none
  cst : ∀ x k, gl.lookup x = some (.cst k) → ∃ u v, mg x = some u ∧ RelV v u ∧ ∀ G, DP K G v (C k)
  fns : ∀ x j, gl.lookup x = some (.fn j) → j < T.length
theorem none_ok {P : Program} {w : World} {K : PySem.W.Frag} {mg : Str → Option Value} {base : Heap} {CX : CXT} {k n : Nat} {f : Addr} {fd : FuncData} {ps : List Str} (h : n = ps.length) : FnOk P w K mg base CX k f fd ps (spD K (fun _ => none) n) :=
  ⟨fun vs H Q E z => z.1.trans h, fun A outer s H args us vs Q E hr hl ha hb hc => by
    obtain ⟨_, _, _, _, _, _, z, _⟩ := hc
    cases z⟩
/-- THE TABLE: every def keeps its promise at every level -/
theorem tab_ok {P : Program} {w : World} {K : PySem.W.Frag} {mg : Str → Option Value} {base : Heap} {gl : List (Str × GK)} {T : List Fd} {C : Nat → D} (hT : TabOk K mg gl 0 T) (hg : GlOk K mg gl T C) : ∀ (n j : Nat) (d : Fd), T[j]? = some d →
    ∃ (x : Str) (f : Addr) (fd : FuncData) (ps : List Str), mg x = some (.ref f) ∧ PySem.W.keepIn K (.ref f) = true ∧ Binds K fd ps [] ∧ FnOk P w K mg base CX0 n f fd ps (spD K ((tabS T C n).f j).2 ((tabS T C n).f j).1) ∧ ∀ y, gl.lookup y = some (.fn j) → y = x
  | 0, j, d, h => by
    have q := hT.get h
    rw [Nat.zero_add] at q
    obtain ⟨x, st, ps, N, f, fd, h1, h2, m, F, S, b, hc, hn⟩ := q.ex
    refine ⟨x, f, fd, ps, m, F.kp, b, ?_, hn⟩
    exact none_ok ((tabS_np h 0).trans h1)
  | n + 1, j, d, h => by
    have q := hT.get h
    rw [Nat.zero_add] at q
    obtain ⟨x, st, ps, N, f, fd, h1, h2, m, F, S, b, hc, hn⟩ := q.ex
    refine ⟨x, f, fd, ps, m, F.kp, b, ?_, hn⟩
    have e : (tabS T C (n + 1)).f j = (d.np, fBody d.np d.ns (evB (tabS T C n) d.body)) := by show fdF _ T[j]? = _; rw [h]; rfl
    rw [e]
    show FnOk P w K mg base CX0 (n + 1) f fd ps (spD K (fBody d.np d.ns (evB (tabS T C n) d.body)) d.np)
    rw [h1, h2]
    refine fn_body F S fun X e1 e2 e3 e4 e5 e6 e7 e8 e9 hr hx => ?_
    refine sB d.body ⟨N, defScope st, none, gl⟩ X ?_ hx _ hc
    exact {
      hN := e6
      nd := by rw [e6]; exact S.nd
      sc := e7
      fn := e9
      calm := e8
      room := hr.mono (Nat.zero_le _)
      blt := fun x hx => by rw [e4]; exact hg.blt x hx
      cst := fun x k hk => by
        obtain ⟨u, v, a1, a2, a3⟩ := hg.cst x k hk
        refine ⟨u, v, by rw [e4]; exact a1, a2, fun G => ?_⟩
        rw [e3, tabS_c]
        exact a3 G
      fns := fun y i hi => by
        have hlt := hg.fns y i hi
        obtain ⟨x', f', fd', ps', a1, a2, a3, a4, a5⟩ := tab_ok hT hg n i T[i] (List.getElem?_eq_getElem hlt)
        have ey := a5 y hi
        subst ey
        refine ⟨f', fd', ps', n, by rw [e4]; exact a1, by rw [e3]; exact a2, by rw [e3]; exact a3, ?_, hr⟩
        rw [e1, e2, e3, e4, e5]
        exact a4 }
/-- the law's promise -/
theorem law_sp {K : PySem.W.Frag} {c : Fnc} {H : Hp} {a : Addr} {ns : List Int} {o : List SV} (hs : SqL K H a (ns.map V.int)) (h : c [.rlst (ns.map PyData.int)] = some (.bool true, o)) : spD K c 1 [.ref a] H (fun v _ => v = .bl true) fun _ _ _ => False := by
  refine ⟨rfl, H, [.rlst (ns.map PyData.int)], _, o, ⟨fun b u hb => .inl hb, rfl, fun i sv e => ?_, fun i j sv sv' v e1 e2 w1 _ _ _ => ?_⟩, h, fun v G' H' _ r => ?_⟩
  · cases i with
    | zero =>
      cases e
      refine ⟨.ref a, rfl, a, ns.map V.int, rfl, hs, ?_⟩
      clear hs h
      induction ns with
      | nil => exact .nil
      | cons n ns ih => exact .cons (.int n) ih
    | succ i => simp at e
  · cases i with
    | zero =>
      cases e1
      cases w1
    | succ i => simp at e1
  · cases r; rfl
end Pf

set_option maxHeartbeats 4000000
namespace Pf
open PySem L2

theorem law_ok {P : Program} {w : World} {K : PySem.W.Frag} {mg : Str → Option Value} {base : Heap} {gl : List (Str × GK)} {T : List Fd} {C : Nat → D} (hT : TabOk K mg gl 0 T) (hg : GlOk K mg gl T C) {x : Str} {st : Stmt} {ps N : List Str} {f : Addr} {fd : FuncData} {d : Fd} {j n : Nat} (F : Fun K x x st f fd) (S : FnScope N ps (defScope st))
    (hd : T[j]? = some d) (hc : chkB d.body ⟨N, defScope st, none, gl⟩ (defBody st) = true) (h1 : d.np = ps.length) (h2 : d.ns = N.length) : FnOk P w K mg base CX0 (n + 1) f fd ps (spD K ((tabS T C (n + 1)).f j).2 ((tabS T C (n + 1)).f j).1) := by
  have e : (tabS T C (n + 1)).f j = (d.np, fBody d.np d.ns (evB (tabS T C n) d.body)) := by show fdF _ T[j]? = _; rw [hd]; rfl
  rw [e]
  show FnOk P w K mg base CX0 (n + 1) f fd ps (spD K (fBody d.np d.ns (evB (tabS T C n) d.body)) d.np)
  rw [h1, h2]
  refine fn_body F S fun X e1 e2 e3 e4 e5 e6 e7 e8 e9 hr hx => ?_
  refine sB d.body ⟨N, defScope st, none, gl⟩ X ?_ hx _ hc
  exact {
    hN := e6
    nd := by rw [e6]; exact S.nd
    sc := e7
    fn := e9
    calm := e8
    room := hr.mono (Nat.zero_le _)
    blt := fun x hx => by rw [e4]; exact hg.blt x hx
    cst := fun x k hk => by
      obtain ⟨u, v, a1, a2, a3⟩ := hg.cst x k hk
      refine ⟨u, v, by rw [e4]; exact a1, a2, fun G => ?_⟩
      rw [e3, tabS_c]
      exact a3 G
    fns := fun y i hi => by
      have hlt := hg.fns y i hi
      obtain ⟨x', f', fd', ps', a1, a2, a3, a4, a5⟩ := tab_ok hT hg n i T[i] (List.getElem?_eq_getElem hlt)
      have ey := a5 y hi
      subst ey
      refine ⟨f', fd', ps', n, by rw [e4]; exact a1, by rw [e3]; exact a2, by rw [e3]; exact a3, ?_, hr⟩
      rw [e1, e2, e3, e4, e5]
      exact a4 }
def bltOf (bl : List Str) (p : Str × GK) : Bool := !(isBlt (some p.2)) || decide (p.1 ∈ bl)
theorem blt_of {gl : List (Str × GK)} {bl : List Str} {x : Str} (h : gl.all (bltOf bl) = true) (hx : isBlt (gl.lookup x) = true) : x ∈ bl := by
  cases e : gl.lookup x with
  | none => rw [e] at hx; cases hx
  | some k =>
    rw [e] at hx
    have z := List.all_eq_true.mp h _ (lookup_mem e)
    simp only [bltOf, hx, Bool.not_true, Bool.false_or, decide_eq_true_eq] at z
    exact z
def cstOf (l : List (Str × Nat)) : Str × GK → Bool
  | (x, .cst k) => decide ((x, k) ∈ l)
  | _ => true
theorem cst_of {gl : List (Str × GK)} {l : List (Str × Nat)} {x : Str} {k : Nat} (h : gl.all (cstOf l) = true) (hx : gl.lookup x = some (.cst k)) : (x, k) ∈ l := by
  have z := List.all_eq_true.mp h _ (lookup_mem hx)
  simpa only [cstOf, decide_eq_true_eq] using z
def fnsOf (n : Nat) : Str × GK → Bool
  | (_, .fn k) => decide (k < n)
  | _ => true
theorem fns_of {gl : List (Str × GK)} {n j : Nat} {x : Str} (h : gl.all (fnsOf n) = true) (hx : gl.lookup x = some (.fn j)) : j < n := by
  have z := List.all_eq_true.mp h _ (lookup_mem hx)
  simpa only [fnsOf, decide_eq_true_eq] using z
theorem tupC {K : PySem.W.Frag} {G : Hp} {q : Addr} {its : Array Value} {n : Nat} {qs : Array (Option Value)} {ns : List Int} (v : K.lookup q = some ⟨.type "tuple", none, .seq its n, qs⟩) (hz : its.size ≤ sizeLine) (hv : Vals (ns.map V.int) its.toList) : DP K G (.ref q) (.tuple (ns.map PyData.int)) := by
  refine .tup (xs := ns.map V.int) (.inr ⟨its, n, qs, v, hz, hv⟩) ?_
  clear hv
  induction ns with
  | nil => exact .nil
  | cons a r ih => exact .cons (.int a) ih
end Pf

set_option maxHeartbeats 4000000
namespace Pf
open PySem L2

/-! ### numbers -/
def cp (q : Rat) : D := .tuple [.int q.num, .int (q.den : Int)]
theorem frac_num {a b : Int} (hb : b ≠ 0) : a.fdiv ((Int.gcd a b : Int) * (if b > 0 then 1 else -1)) = (Rat.divInt a b).num ∧ b.fdiv ((Int.gcd a b : Int) * (if b > 0 then 1 else -1)) = ((Rat.divInt a b).den : Int) := by
  have hg : (0 : Int) < Int.gcd a b := by
    have := Int.gcd_pos_of_ne_zero_right (b := b) a hb
    omega
  obtain ⟨a', ha⟩ := Int.gcd_dvd_left a b
  obtain ⟨b', hb'⟩ := Int.gcd_dvd_right a b
  rw [Rat.num_divInt, Rat.den_divInt, if_neg hb, Int.gcd_comm b a]
  generalize hG : (Int.gcd a b : Nat) = g at *
  have hg0 : (g : Int) ≠ 0 := by omega
  by_cases hp : b > 0
  · rw [if_pos hp, Int.mul_one, Int.sign_eq_one_of_pos hp, Int.one_mul]
    refine ⟨?_, ?_⟩
    · exact Int.fdiv_eq_ediv_of_nonneg _ (by omega)
    · rw [Int.fdiv_eq_ediv_of_nonneg _ (by omega), Int.natCast_ediv, Int.natAbs_of_nonneg (by omega)]
  · have hn : b < 0 := by omega
    rw [if_neg hp, Int.sign_eq_neg_one_of_neg hn]
    have e1 : a.fdiv (↑g * -1) = -a' := by
      rw [ha, show (g : Int) * a' = (-a') * (↑g * -1) by grind]
      exact Int.mul_fdiv_cancel _ (by omega)
    have e2 : b.fdiv (↑g * -1) = -b' := by
      rw [hb', show (g : Int) * b' = (-b') * (↑g * -1) by grind]
      exact Int.mul_fdiv_cancel _ (by omega)
    refine ⟨?_, ?_⟩
    · rw [e1, ha, show (-1 : Int) * (↑g * a') = ↑g * (-a') by grind, Int.mul_ediv_cancel_left _ hg0]
    · rw [e2]
      have hb2 : 0 < -b' := by
        rcases Int.lt_or_le b' 0 with h | h
        · omega
        · have := Int.mul_nonneg (Int.le_of_lt hg) h
          rw [← hb'] at this
          omega
      have e3 : (b.natAbs : Int) = g * (-b') := by
        rw [show (b.natAbs : Int) = -b by omega, hb']
        grind
      rw [Int.natCast_ediv, e3, Int.mul_ediv_cancel_left _ hg0]
/-- no number of it is greater than 2 ^ k -/
def Bd (k : Nat) (q : Rat) : Prop := q.num.natAbs ≤ 2 ^ k ∧ q.den ≤ 2 ^ k
theorem Bd.mono {j k : Nat} {q : Rat} (h : Bd j q) (hk : j ≤ k) : Bd k q :=
  ⟨Nat.le_trans h.1 (Nat.pow_le_pow_right (by decide) hk), Nat.le_trans h.2 (Nat.pow_le_pow_right (by decide) hk)⟩
theorem bd_div {a b : Int} {k : Nat} (hb : b ≠ 0) (h1 : a.natAbs ≤ 2 ^ k) (h2 : b.natAbs ≤ 2 ^ k) : Bd k (Rat.divInt a b) := by
  have hg : 0 < Int.gcd a b := Int.gcd_pos_of_ne_zero_right (b := b) a hb
  have hs : (b.sign * a).natAbs = a.natAbs := by
    rw [Int.natAbs_mul, Int.natAbs_sign_of_ne_zero hb, Nat.one_mul]
  constructor
  · rw [Rat.num_divInt, Int.gcd_comm b a, Int.natAbs_ediv_of_dvd (Int.dvd_trans (Int.gcd_dvd_left a b) (Int.dvd_mul_left _ _)), hs]
    exact Nat.le_trans (Nat.div_le_self _ _) h1
  · rw [Rat.den_divInt, if_neg hb]
    exact Nat.le_trans (Nat.div_le_self _ _) h2
theorem Bd.mul {j k : Nat} {p q : Rat} (h1 : Bd j p) (h2 : Bd k q) : Bd (j + k) (p * q) := by
  rw [Rat.mul_def', ← Rat.divInt_ofNat]
  refine bd_div (by have := p.den_pos; have := q.den_pos; have := Nat.mul_pos p.den_pos q.den_pos; omega) ?_ ?_
  · rw [Int.natAbs_mul, Nat.pow_add]; exact Nat.mul_le_mul h1.1 h2.1
  · rw [Int.natAbs_natCast, Nat.pow_add]; exact Nat.mul_le_mul h1.2 h2.2
theorem Bd.add {j k : Nat} {p q : Rat} (h1 : Bd j p) (h2 : Bd k q) : Bd (j + k + 1) (p + q) := by
  rw [Rat.add_def', ← Rat.divInt_ofNat]
  refine bd_div (by have := Nat.mul_pos p.den_pos q.den_pos; omega) ?_ ?_
  · refine Nat.le_trans (Int.natAbs_add_le _ _) ?_
    rw [Int.natAbs_mul, Int.natAbs_mul, Int.natAbs_natCast, Int.natAbs_natCast, Nat.pow_succ, Nat.pow_add]
    have e1 := Nat.mul_le_mul h1.1 h2.2
    have e2 := Nat.mul_le_mul h2.1 h1.2
    rw [Nat.mul_comm (2 ^ k)] at e2
    omega
  · rw [Int.natAbs_natCast, Nat.pow_succ, Nat.pow_add]
    have e1 := Nat.mul_le_mul h1.2 h2.2
    omega
theorem Bd.neg {k : Nat} {p : Rat} (h : Bd k p) : Bd k (-p) := ⟨by rw [Rat.neg_num, Int.natAbs_neg]; exact h.1, by rw [Rat.neg_den]; exact h.2⟩
theorem Bd.sub {j k : Nat} {p q : Rat} (h1 : Bd j p) (h2 : Bd k q) : Bd (j + k + 1) (p - q) := by rw [Rat.sub_eq_add_neg]; exact h1.add h2.neg
theorem Bd.div {j k : Nat} {p q : Rat} (h1 : Bd j p) (h2 : Bd k q) (hq : q ≠ 0) : Bd (j + k) (p / q) := by
  have hn : q.num ≠ 0 := fun e => hq (Rat.num_eq_zero.mp e)
  have e : p / q = Rat.divInt (p.num * q.den) (p.den * q.num) := by
    rw [Rat.div_def, Rat.inv_def]
    conv => lhs; rw [← Rat.num_divInt_den p]
    rw [Rat.divInt_mul_divInt]
  rw [e]
  refine bd_div (by have := p.den_pos; exact Int.mul_ne_zero (by omega) hn) ?_ ?_
  · rw [Int.natAbs_mul, Int.natAbs_natCast, Nat.pow_add]; exact Nat.mul_le_mul h1.1 h2.2
  · rw [Int.natAbs_mul, Int.natAbs_natCast, Nat.pow_add]; exact Nat.mul_le_mul h1.2 h2.1
theorem add_dI (p q : Rat) : p + q = Rat.divInt (p.num * q.den + q.num * p.den) (p.den * q.den) := by
  rw [Rat.add_def', ← Rat.divInt_ofNat, Int.natCast_mul]
theorem mul_dI (p q : Rat) : p * q = Rat.divInt (p.num * q.num) (p.den * q.den) := by
  rw [Rat.mul_def', ← Rat.divInt_ofNat, Int.natCast_mul]
theorem div_dI (p q : Rat) : p / q = Rat.divInt (p.num * q.den) (p.den * q.num) := by
  rw [Rat.div_def, Rat.inv_def]
  conv => lhs; rw [← Rat.num_divInt_den p]
  rw [Rat.divInt_mul_divInt]
theorem cp_inj {p q : Rat} (h : cp p = cp q) : p = q := by
  have h1 : p.num = q.num := by injection h with h; injection h with h _; injection h
  have h2 : (p.den : Int) = q.den := by injection h with h; injection h with _ h; injection h with h _; injection h
  exact Rat.ext h1 (by omega)
end Pf

set_option maxHeartbeats 4000000
namespace Pf
open PySem L2

/-! ### evaluation -/
theorem getElem_s {α : Type} (a : α) (l : List α) (i : Nat) : (a :: l)[i + 1]? = l[i]? := rfl
theorem sm_le {i : Int} {k : Nat} (h : i.natAbs ≤ 2 ^ k) (hk : k < 4000) : Sm i := Nat.lt_of_le_of_lt h (by unfold bigN; exact Nat.pow_lt_pow_right (by decide) hk)
theorem sm_small {i : Int} (h : i.natAbs ≤ 2 ^ 64) : Sm i := sm_le h (by decide)
theorem Bd.sn {q : Rat} {k : Nat} (h : Bd k q) (hk : k < 4000) : Sm q.num := sm_le h.1 hk
theorem Bd.sd {q : Rat} {k : Nat} (h : Bd k q) (hk : k < 4000) : Sm (q.den : Int) := sm_le (by rw [Int.natAbs_natCast]; exact h.2) hk
theorem at0 {α : Type} (a : α) (l : List α) : atI (a :: l) 0 = some a := atI_nat (j := 0) rfl
theorem at1 {α : Type} (a b : α) (l : List α) : atI (a :: b :: l) 1 = some b := atI_nat (j := 1) rfl
theorem eqD_int (i j : Int) : eqD (.int i) (.int j) = some (decide (i = j)) := by
  show (if _ then _ else _) = _
  rw [if_pos ⟨rfl, rfl⟩]
  show some (i == j) = _
  congr 1
theorem eqD_cp (p q : Rat) : eqD (cp p) (cp q) = some (decide (p = q)) := by
  show (if _ then _ else _) = _
  rw [if_pos ⟨rfl, rfl⟩]
  congr 1
  show PyData.eqv (.tuple [.int p.num, .int p.den]) (.tuple [.int q.num, .int q.den]) = _
  simp only [PyData.eqv, PyData.eqvAll, Bool.and_true]
  by_cases h : p = q
  · subst h; simp
  · rw [decide_eq_false h]
    refine Bool.eq_false_iff.mpr fun z => h ?_
    simp only [Bool.and_eq_true, beq_iff_eq] at z
    exact Rat.ext z.1 (by omega)
theorem outs_id : ∀ {svs : List SV} {en : En}, (svs.all fun s => !(ownB s)) = true → svs.length ≤ en.length → outs svs en = some svs
  | [], _, _, _ => rfl
  | s :: r, [], _, h => by simp at h
  | s :: r, o :: e, h, hl => by
    simp only [List.all_cons, Bool.and_eq_true, Bool.not_eq_true'] at h
    have ih := outs_id (svs := r) (en := e) h.2 (by simpa using hl)
    unfold outs
    cases s with
    | odic p kvs => cases p <;> cases h.1
    | olst ds => cases h.1
    | dat d => simp [ih, ownB]
    | fdic d => simp [ih, ownB]
    | kdic d => simp [ih, ownB]
    | rlst d => simp [ih, ownB]
/-- gcd -/
theorem gcd_loop {cond : M Bool} {body : MS} (f : Int → Int → En) (hc : ∀ a b, cond (f a b) = some (decide (b ≠ 0), f a b)) (hb : ∀ a b : Int, b ≠ 0 → body (f a b) = some (.next, f b (a.fmod b))) : ∀ (n a b : Nat), b < n → loopW cond body n (f a b) = some (.next, f (Nat.gcd a b) 0)
  | 0, _, _, h => by omega
  | n + 1, a, b, h => by
    unfold loopW
    rw [hc]
    by_cases z : (b : Int) = 0
    · have e : b = 0 := by omega
      subst e
      simp
    · have hb0 : b ≠ 0 := by omega
      simp only [Option.bind_some, z, ne_eq, not_false_eq_true, decide_true, if_true, hb _ _ z, aftL]
      rw [show ((a : Int).fmod b) = ((a % b : Nat) : Int) from (Int.fmod_eq_emod_of_nonneg _ (by omega)).trans (Int.natCast_emod a b).symm]
      rw [gcd_loop f hc hb n b (a % b) (by have := Nat.mod_lt a (Nat.pos_of_ne_zero hb0); omega)]
      rw [Nat.gcd_comm b, ← Nat.gcd_rec b a, Nat.gcd_comm]
theorem B_next {Y : Sys} {s : S} {r : B} {en en1 : En} {x : Option (Fl × En)} (h : evS Y s en = some (.next, en1)) (h2 : evB Y r en1 = x) : evB Y (.cons s r) en = x := by
  rw [evB]; unfold fSeq2; rw [h]; exact h2
theorem B_ret {Y : Sys} {s : S} {r : B} {en en1 : En} {d : D} (h : evS Y s en = some (.ret d, en1)) : evB Y (.cons s r) en = some (.ret d, en1) := by
  rw [evB]; unfold fSeq2; rw [h]; rfl
theorem fb_ret {np ns : Nat} {body : MS} {args : List SV} {en' : En} {d : D} (hn : args.length = np) (h : body (args.map some ++ List.replicate (ns - np) none) = some (.ret d, en')) (ho : outs args en' = some args) : fBody np ns body args = some (d, args) := by
  unfold fBody
  rw [if_pos hn, h]
  simp [endV, ho]
theorem fb_ret' {np ns : Nat} {body : MS} {args args' : List SV} {en' : En} {d : D} (hn : args.length = np) (h : body (args.map some ++ List.replicate (ns - np) none) = some (.ret d, en')) (ho : outs args en' = some args') : fBody np ns body args = some (d, args') := by
  unfold fBody
  rw [if_pos hn, h]
  simp [endV, ho]
/-- a slot of which one knows that it holds data, if it holds anything -/
abbrev dv (o : Option D) : Option SV := o.map SV.dat
theorem setS_s {i : Nat} {sv : SV} {a : Option SV} {l : En} : setS (i + 1) sv (a :: l) = (setS i sv l).map (a :: ·) := by
  unfold setS
  rw [getElem_s]
  split <;> simp_all
theorem setS_dv {sv : SV} {o : Option D} {l : En} : setS 0 sv (o.map SV.dat :: l) = some (some sv :: l) := by cases o <;> rfl
theorem setS_dat {sv : SV} {d : D} {l : En} : setS 0 sv (some (.dat d) :: l) = some (some sv :: l) := rfl
theorem setS_none {sv : SV} {l : En} : setS 0 sv (none :: l) = some (some sv :: l) := rfl
theorem setS_olst {sv : SV} {d : List D} {l : En} : setS 0 sv (some (.olst d) :: l) = some (some sv :: l) := rfl
theorem setS_rlst {sv : SV} {d : List D} {l : En} : setS 0 sv (some (.rlst d) :: l) = some (some sv :: l) := rfl
theorem setS_fdic {sv : SV} {d : List (Key × D)} {l : En} : setS 0 sv (some (.fdic d) :: l) = some (some sv :: l) := rfl
theorem setS_kdic {sv : SV} {d : List (Key × D)} {l : En} : setS 0 sv (some (.kdic d) :: l) = some (some sv :: l) := rfl
theorem setS_odic {sv : SV} {d : List (Key × D)} {l : En} : setS 0 sv (some (.odic false d) :: l) = some (some sv :: l) := rfl
theorem setS_ol {sv : SV} {o : Option (List D)} {l : En} : setS 0 sv (o.map SV.olst :: l) = some (some sv :: l) := by cases o <;> rfl
theorem gN_dv {i : Nat} {d : D} {en : En} {o : Option D} (h : en[i]? = some (o.map SV.dat)) : gN i d en = some (en.set i (some (.dat d))) := by
  show setS i (.dat d) en = _
  unfold setS
  rw [h]
  cases o <;> rfl
theorem loop_inv {bd : D → En → Option En} {body : MS} {P : Nat → En → Prop} : ∀ (ds : List D) (i : Nat) (en : En), P i en → (∀ j d en, ds[j]? = some d → P (i + j) en → ∃ en1 en2, bd d en = some en1 ∧ body en1 = some (.next, en2) ∧ P (i + j + 1) en2) → ∃ en', loopF bd body ds en = some (.next, en') ∧ P (i + ds.length) en'
  | [], i, en, h, _ => ⟨en, rfl, h⟩
  | d :: ds, i, en, h, k => by
    obtain ⟨en1, en2, h1, h2, h3⟩ := k 0 d en rfl h
    obtain ⟨en', h4, h5⟩ := loop_inv (P := P) ds (i + 1) en2 h3 fun j d en e p => by
      rw [show i + 1 + j = i + (j + 1) by omega] at p ⊢
      exact k (j + 1) d en e p
    refine ⟨en', ?_, by rw [List.length_cons, show i + (ds.length + 1) = i + 1 + ds.length by omega]; exact h5⟩
    unfold loopF
    rw [h1, Option.bind_some, h2]
    exact h4
/-- a loop that may return -/
theorem loop_ret {bd : D → En → Option En} {body : MS} {P : Nat → En → Prop} {R : D → En → Prop} : ∀ (ds : List D) (i : Nat) (en : En), P i en → (∀ j d en, ds[j]? = some d → P (i + j) en → ∃ en1 fl en2, bd d en = some en1 ∧ body en1 = some (fl, en2) ∧ ((fl = .next ∧ P (i + j + 1) en2) ∨ ∃ v, fl = .ret v ∧ R v en2)) →
    ∃ fl en', loopF bd body ds en = some (fl, en') ∧ ((fl = .next ∧ P (i + ds.length) en') ∨ ∃ v, fl = .ret v ∧ R v en')
  | [], i, en, h, _ => ⟨.next, en, rfl, .inl ⟨rfl, h⟩⟩
  | d :: ds, i, en, h, k => by
    obtain ⟨en1, fl, en2, h1, h2, h3⟩ := k 0 d en rfl h
    rcases h3 with ⟨rfl, h3⟩ | ⟨v, rfl, h3⟩
    · obtain ⟨fl', en', h4, h5⟩ := loop_ret (P := P) (R := R) ds (i + 1) en2 h3 fun j d en e p => by
        rw [show i + 1 + j = i + (j + 1) by omega] at p ⊢
        exact k (j + 1) d en e p
      refine ⟨fl', en', ?_, by rw [List.length_cons, show i + (ds.length + 1) = i + 1 + ds.length by omega]; exact h5⟩
      unfold loopF
      rw [h1, Option.bind_some, h2]
      exact h4
    · refine ⟨.ret v, en2, ?_, .inr ⟨v, rfl, h3⟩⟩
      unfold loopF
      rw [h1, Option.bind_some, h2]
      rfl
theorem comp_inv {vs : List Nat} {bd : D → En → Option En} {cond : M Bool} {elt : M SV} {P : Nat → List D → En → Prop} : ∀ (ds : List D) (i : Nat) (acc : List D) (en : En), P i acc en →
    (∀ j d acc en, ds[j]? = some d → P (i + j) acc en → ∃ en1 b en2, bd d en = some en1 ∧ cond en1 = some (b, en2) ∧ if b = true then ∃ x en3, elt en2 = some (.dat x, en3) ∧ P (i + j + 1) (acc ++ [x]) (wipeE en3 vs) else P (i + j + 1) acc (wipeE en2 vs)) →
    ∃ r en', cLoop vs bd cond elt ds en = some (r, en') ∧ P (i + ds.length) (acc ++ r) en'
  | [], i, acc, en, h, _ => ⟨[], en, rfl, by rw [List.append_nil]; exact h⟩
  | d :: ds, i, acc, en, h, k => by
    obtain ⟨en1, b, en2, h1, h2, h3⟩ := k 0 d acc en rfl h
    have kk : ∀ j d acc en, ds[j]? = some d → P (i + 1 + j) acc en → ∃ en1 b en2, bd d en = some en1 ∧ cond en1 = some (b, en2) ∧ if b = true then ∃ x en3, elt en2 = some (.dat x, en3) ∧ P (i + 1 + j + 1) (acc ++ [x]) (wipeE en3 vs) else P (i + 1 + j + 1) acc (wipeE en2 vs) := fun j d acc en e p => by
      rw [show i + 1 + j = i + (j + 1) by omega] at p ⊢
      exact k (j + 1) d acc en e p
    have hl : i + (d :: ds).length = i + 1 + ds.length := by rw [List.length_cons]; omega
    rw [hl]
    cases b with
    | true =>
      rw [if_pos rfl] at h3
      obtain ⟨x, en3, h4, h5⟩ := h3
      obtain ⟨r, en', h6, h7⟩ := comp_inv (P := P) ds (i + 1) (acc ++ [x]) _ h5 kk
      refine ⟨x :: r, en', ?_, by rw [List.append_assoc] at h7; exact h7⟩
      unfold cLoop
      simp [h1, h2, h4, h6, datS]
    | false =>
      rw [if_neg (by decide)] at h3
      obtain ⟨r, en', h6, h7⟩ := comp_inv (P := P) ds (i + 1) acc _ h3 kk
      refine ⟨r, en', ?_, h7⟩
      unfold cLoop
      simp [h1, h2, h6]
/-- a block that only asks -/
theorem comp_map {α : Type} {vs : List Nat} {bd : D → En → Option En} {cond : M Bool} {elt : M SV} {f g : α → D} {p : α → Bool} {en : En} : ∀ (xs : List α), (∀ x ∈ xs, ∃ en1 en2, bd (f x) en = some en1 ∧ cond en1 = some (p x, en2) ∧ if p x = true then ∃ en3, elt en2 = some (.dat (g x), en3) ∧ wipeE en3 vs = en else wipeE en2 vs = en) →
    cLoop vs bd cond elt (xs.map f) en = some ((xs.filter p).map g, en)
  | [], _ => rfl
  | x :: xs, h => by
    obtain ⟨en1, en2, h1, h2, h3⟩ := h x List.mem_cons_self
    have ih := comp_map (vs := vs) (bd := bd) (cond := cond) (elt := elt) (f := f) (g := g) (p := p) (en := en) xs fun y hy => h y (List.mem_cons_of_mem _ hy)
    rw [List.map_cons]
    unfold cLoop
    by_cases z : p x = true
    · rw [if_pos z] at h3
      obtain ⟨en3, h4, h5⟩ := h3
      simp [h1, h2, h4, h5, ih, datS, z, List.filter_cons]
    · rw [if_neg z] at h3
      simp [h1, h2, h3, ih, datS, z, List.filter_cons]
theorem cut_take {α : Type} (xs : List α) (k : Nat) : cutL xs none (some (k : Int)) = xs.take k := by
  unfold cutL
  rw [HT.sIx_none, HT.sIx_nat, List.drop_zero, Nat.sub_zero]
  by_cases h : k ≤ xs.length
  · rw [Nat.min_eq_left h]
  · rw [Nat.min_eq_right (by omega), List.take_of_length_le (Nat.le_refl _), List.take_of_length_le (by omega)]
theorem cut_drop {α : Type} (xs : List α) (k : Nat) : cutL xs (some (k : Int)) none = xs.drop k := by
  unfold cutL
  rw [HT.sIx_none, HT.sIx_nat]
  by_cases h : k ≤ xs.length
  · rw [Nat.min_eq_left h, List.take_of_length_le (by rw [List.length_drop]; omega)]
  · rw [Nat.min_eq_right (by omega), List.drop_length, List.drop_of_length_le (by omega)]
    simp
theorem rngD_at {lo : Int} {n j : Nat} {d : D} (h : (rngD lo n)[j]? = some d) : j < n ∧ d = .int (lo + j) := rngD_get h
theorem fm_bd {a b : Int} (h : 0 < b) : 0 ≤ a.fmod b ∧ a.fmod b < b := ⟨Int.fmod_nonneg_of_pos a h, Int.fmod_lt_of_pos a h⟩
/-- the state of the draws -/
def W (ns : List Int) (k : Int) : List (Key × D) := [(.inr ("draws" : Str), .list (ns.map PyData.int)), (.inr ("at" : Str), .int k)]
theorem W_draws (ns : List Int) (k : Int) : lookD (W ns k) (.inr ("draws" : Str)) = some (.list (ns.map PyData.int)) := rfl
theorem W_at (ns : List Int) (k : Int) : lookD (W ns k) (.inr ("at" : Str)) = some (.int k) := by
  have h : decide (("draws" : Str) = "at") = false := by decide
  simp [lookD, W, List.find?_cons, h]
theorem W_put (ns : List Int) (k j : Int) : putD (W ns k) (.inr ("at" : Str)) (.int j) = W ns j := by
  have h : ¬ (("draws" : Str) = "at") := by decide
  simp [putD, W, h]
theorem W_len (ns : List Int) (k : Int) : (W ns k).length = 2 := rfl
/-- data that _law_same finds equal to itself -/
def sg : Nat → D → Prop
  | _, .none => True
  | _, .bool _ => True
  | _, .int _ => True
  | _, .str x => shp (.str x) = true
  | m + 1, .tuple ds => ds.length ≤ lim ∧ ∀ d ∈ ds, sg m d
  | _, _ => False
theorem sg_cp (m : Nat) (q : Rat) : sg (m + 1) (cp q) := ⟨(by decide : 2 ≤ lim), fun d hd => by
  rcases List.mem_cons.mp hd with rfl | hd
  · cases m <;> trivial
  · rcases List.mem_cons.mp hd with rfl | hd
    · cases m <;> trivial
    · cases hd⟩
theorem sg_int (m : Nat) (i : Int) : sg m (.int i) := by cases m <;> trivial
theorem sg_none (m : Nat) : sg m .none := by cases m <;> trivial
theorem sg_bool (m : Nat) (b : Bool) : sg m (.bool b) := by cases m <;> trivial
theorem sg_tup {m : Nat} {ds : List D} (h : ds.length ≤ lim) (k : ∀ d ∈ ds, sg m d) : sg (m + 1) (.tuple ds) := ⟨h, k⟩
theorem eqD_self_str {x : Str} (h : shp (.str x) = true) : eqD (.str x) (.str x) = some true := by
  show (if _ then _ else _) = _
  rw [if_pos ⟨h, h⟩]
  show some (x == x) = _
  rw [beq_self_eq_true]
theorem eqD_bool (a b : Bool) : eqD (.bool a) (.bool b) = some (a == b) := by
  show (if _ then _ else _) = _
  rw [if_pos ⟨rfl, rfl⟩]
  rfl
theorem eqD_nil : eqD (.list []) (.list []) = some true := rfl
theorem rngD_map (n : Nat) : rngD 0 n = (List.range n).map fun i : Nat => PyData.int (i : Int) := by unfold rngD; simp
theorem for_next {Y : Sys} {tg : Tg} {it : I} {b : B} {en en1 en2 : En} {ds : List D} (hi : evI Y it en = some (ds, en1)) (hl : loopF (evG tg) (evB Y b) ds en1 = some (.next, en2)) : evS Y (.for tg it b) en = some (.next, en2) := by
  rw [evS]; unfold fFor; rw [hi]; exact hl
theorem for_any {Y : Sys} {tg : Tg} {it : I} {b : B} {en en1 : En} {ds : List D} {x : Option (Fl × En)} (hi : evI Y it en = some (ds, en1)) (hl : loopF (evG tg) (evB Y b) ds en1 = x) : evS Y (.for tg it b) en = x := by
  rw [evS]; unfold fFor; rw [hi]; exact hl
theorem comp_ev {Y : Sys} {elt : E} {tg : Tg} {it : I} {c : C} {own : List (Str × Nat)} {en en1 en2 : En} {ds r : List D} (hi : evI Y it en = some (ds, en1)) (hl : ds.length ≤ lim) (hc : cLoop (own.map (·.2)) (evG tg) (evC Y c) (evE Y elt) ds (wipeE en1 (own.map (·.2))) = some (r, en2)) :
    evL Y (.comp elt tg it c own) en = some (r, unwipe en1 en2 (own.map (·.2))) := by
  rw [evL]; unfold fComp; rw [hi, Option.bind_some, if_pos hl, hc]; rfl
theorem lvl {P : Nat → Prop} (k : Nat) (h : ∀ n, P (n + k)) (m : Nat) (hm : k ≤ m) : P m := by
  have := h (m - k)
  rw [Nat.sub_add_cancel hm] at this
  exact this
theorem rng1_ev {Y : Sys} {as : Os} {en en1 : En} {os : List Op} {m : Int} {k : Nat} (h : evOs Y as en = some (os, en1)) (h2 : rsAll os en1 = some [.int m]) (hm : m = (k : Int)) (hk : k ≤ 100000) : evI Y (.rng1 as) en = some (rngD 0 k, en1) := by
  rw [evI]; unfold fRng1
  rw [h, Option.bind_some, h2, Option.bind_some]
  show (if -1000000 ≤ m ∧ m ≤ 1000000 then some (rngD 0 m.toNat, en1) else none) = _
  rw [if_pos (by omega), hm, Int.toNat_natCast]
theorem rng2_ev {Y : Sys} {as : Os} {en en1 : En} {os : List Op} {lo m : Int} {a k : Nat} (h : evOs Y as en = some (os, en1)) (h2 : rsAll os en1 = some [.int lo, .int m]) (ha : lo = (a : Int)) (hm : (m - lo).toNat = k) (hl : a ≤ 100000) (hk : k ≤ 100000) (hn : -100000 ≤ m) : evI Y (.rng2 as) en = some (rngD (a : Int) k, en1) := by
  rw [evI]; unfold fRng2
  rw [h, Option.bind_some, h2, Option.bind_some]
  show (if -1000000 ≤ lo ∧ lo ≤ 1000000 ∧ -1000000 ≤ m ∧ m ≤ 1000000 then some (rngD lo (m - lo).toNat, en1) else none) = _
  rw [if_pos (by omega), hm, ha]
theorem cp_zero : PyData.tuple [.int 0, .int 1] = cp 0 := rfl
theorem cp_one : PyData.tuple [.int 1, .int 1] = cp 1 := rfl
theorem bd0 : Bd 0 0 := ⟨by decide, by decide⟩
theorem bd1 : Bd 0 1 := ⟨by decide, by decide⟩
theorem fn_lenL (xs : List D) : fnD .len [.list xs] = some (.int xs.length) := rfl
theorem fn_lenT (xs : List D) : fnD .len [.tuple xs] = some (.int xs.length) := rfl
theorem fn_max2 (i j : Int) : fnD .max2 [.int i, .int j] = some (.int (if j > i then j else i)) := rfl
theorem fn_abs (i : Int) : fnD .abs [.int i] = some (.int (if i < 0 then -i else i)) := rfl
theorem fn_int (i : Int) : fnD .int [.int i] = some (.int i) := rfl
theorem fn_intb (b : Bool) : fnD .int [.bool b] = some (.int (if b then 1 else 0)) := rfl
theorem at_l (xs : List D) (i : Int) : atD (.list xs) (.int i) = atI xs i := rfl
theorem at_t (xs : List D) (i : Int) : atD (.tuple xs) (.int i) = atI xs i := rfl
theorem seq_l (xs : List D) : seqV (.list xs) = some xs := rfl
theorem seq_t (xs : List D) : seqV (.tuple xs) = some xs := rfl
theorem fcomp {Y : Sys} {L : L} {en en1 : En} {r : List D} (h : evL Y L en = some (r, en1)) : evE Y (.fresh L) en = some (.dat (.list r), en1) := by
  rw [evE]; unfold fFresh; rw [h]; rfl
theorem absD (i : Int) : (if i < 0 then -i else i) = (i.natAbs : Int) := by split <;> omega
end Pf

set_option maxHeartbeats 4000000
namespace K26
open PySem L2 Pf
def b_is_number : B := (.cons (.ret (.test (.and (.cons (.val (.isi .int (.slot 0))) (.one (.not (.val (.isi .bool (.slot 0)))))))))
    .nil)
def b_is_from : B := (.cons (.ret (.test (.and (.cons (.val (.call "is_number" 0 (.cons (.var 0) .nil))) (.one (.cmp .ge (.slot 0) (.slot 1)))))))
    .nil)
def c_is_ascending_1i : I := (.rng1 (.cons (.val (.bin .sub (.val (.fn .len (.cons (.slot 0) .nil))) (.val (.lit (.int 1))))) .nil))
def c_is_ascending_1c : C := .yes
def c_is_ascending_1e : E := (.test (.cmp .lt (.val (.at (.slot 0) (.slot 1))) (.val (.at (.slot 0) (.val (.bin .add (.slot 1) (.val (.lit (.int 1)))))))))
def c_is_ascending_1 : L := (.comp c_is_ascending_1e (.name 1) c_is_ascending_1i c_is_ascending_1c [("k", 1)])
def b_is_ascending : B := (.cons (.ret (.fn .all (.cons (.val (.fresh c_is_ascending_1)) .nil)))
    .nil)
def c_is_number_set_1i : I := (.seq (.var 0))
def c_is_number_set_1c : C := .yes
def c_is_number_set_1e : E := (.call "is_from" 1 (.cons (.var 1) (.cons (.lit (.int 0)) .nil)))
def c_is_number_set_1 : L := (.comp c_is_number_set_1e (.name 1) c_is_number_set_1i c_is_number_set_1c [("one", 1)])
def b_is_number_set : B := (.cons (.ife (.or (.cons (.not (.val (.isi .tuple (.slot 0)))) (.one (.not (.val (.fn .all (.cons (.val (.fresh c_is_number_set_1)) .nil))))))) (.cons (.ret (.lit (.bool false)))
    .nil) .nil)
    (.cons (.ret (.call "is_ascending" 2 (.cons (.var 0) .nil)))
    .nil))
def b_set_of : B := (.cons (.ret (.tupOf (.val (.fresh (.sortSet (.slot 0))))))
    .nil)
def c_chosen_1i : I := (.seq (.call "chosen" 5 (.cons (.cut (.slot 0) (.yes (.val (.bin .add (.slot 3) (.val (.lit (.int 1)))))) .no) (.cons (.bin .sub (.slot 1) (.val (.lit (.int 1)))) .nil))))
def c_chosen_1c : C := .yes
def c_chosen_1e : E := (.bin .add (.val (.tup (.cons (.at (.slot 0) (.slot 3)) .nil))) (.slot 4))
def c_chosen_1 : L := (.comp c_chosen_1e (.name 4) c_chosen_1i c_chosen_1c [("rest", 4)])
def b_chosen_1 : B := (.cons (.ext 2 (.fresh c_chosen_1))
    .nil)
def b_chosen : B := (.cons (.ife (.cmp .eq (.slot 1) (.val (.lit (.int 0)))) (.cons (.ret (.fresh (.disp (.cons (.tup .nil) .nil))))
    .nil) .nil)
    (.cons (.asgL 2 (.disp .nil))
    (.cons (.for (.name 3) (.rng1 (.cons (.val (.fn .len (.cons (.slot 0) .nil))) .nil)) b_chosen_1)
    (.cons (.ret (.var 2))
    .nil))))
def b_all_sets_1 : B := (.cons (.ext 1 (.call "chosen" 5 (.cons (.var 0) (.cons (.var 2) .nil))))
    .nil)
def b_all_sets : B := (.cons (.asgL 1 (.disp .nil))
    (.cons (.for (.name 2) (.rng1 (.cons (.val (.bin .add (.val (.fn .len (.cons (.slot 0) .nil))) (.val (.lit (.int 1))))) .nil)) b_all_sets_1)
    (.cons (.ret (.var 1))
    .nil)))
def c_is_rule_1i : I := (.seq (.at (.slot 0) (.val (.neg (.val (.lit (.int 1)))))))
def c_is_rule_1c : C := .yes
def c_is_rule_1e : E := (.call "is_rule" 7 (.cons (.var 1) .nil))
def c_is_rule_1 : L := (.comp c_is_rule_1e (.name 1) c_is_rule_1i c_is_rule_1c [("rule", 1)])
def b_is_rule : B := (.cons (.ife (.or (.cons (.not (.val (.isi .tuple (.slot 0)))) (.one (.cmp .notin (.val (.fn .len (.cons (.slot 0) .nil))) (.val (.tup (.cons (.lit (.int 2)) (.cons (.lit (.int 3)) .nil)))))))) (.cons (.ret (.lit (.bool false)))
    .nil) .nil)
    (.cons (.ife (.cmp .eq (.val (.at (.slot 0) (.val (.lit (.int 0))))) (.val (.lit (.str "course")))) (.cons (.ret (.test (.and (.cons (.cmp .eq (.val (.fn .len (.cons (.slot 0) .nil))) (.val (.lit (.int 2)))) (.one (.val (.call "is_from" 1 (.cons (.at (.slot 0) (.val (.lit (.int 1)))) (.cons (.lit (.int 0)) .nil)))))))))
    .nil) .nil)
    (.cons (.ife (.cmp .eq (.val (.at (.slot 0) (.val (.lit (.int 0))))) (.val (.lit (.str "points")))) (.cons (.ret (.test (.and (.cons (.cmp .eq (.val (.fn .len (.cons (.slot 0) .nil))) (.val (.lit (.int 3)))) (.cons (.val (.call "is_from" 1 (.cons (.at (.slot 0) (.val (.lit (.int 1)))) (.cons (.lit (.int 0)) .nil)))) (.one (.val (.call "is_number_set" 3 (.cons (.at (.slot 0) (.val (.lit (.int 2)))) .nil)))))))))
    .nil) .nil)
    (.cons (.ife (.or (.cons (.cmp .notin (.val (.at (.slot 0) (.val (.lit (.int 0))))) (.val (.tup (.cons (.lit (.str "all")) (.cons (.lit (.str "of")) .nil))))) (.one (.cmp .ne (.val (.fn .len (.cons (.slot 0) .nil))) (.val (.ite (.cmp .eq (.val (.at (.slot 0) (.val (.lit (.int 0))))) (.val (.lit (.str "all")))) (.lit (.int 2)) (.lit (.int 3)))))))) (.cons (.ret (.lit (.bool false)))
    .nil) .nil)
    (.cons (.ife (.or (.cons (.not (.val (.isi .tuple (.val (.at (.slot 0) (.val (.neg (.val (.lit (.int 1)))))))))) (.one (.not (.val (.fn .all (.cons (.val (.fresh c_is_rule_1)) .nil))))))) (.cons (.ret (.lit (.bool false)))
    .nil) .nil)
    (.cons (.ret (.test (.or (.cons (.cmp .eq (.val (.at (.slot 0) (.val (.lit (.int 0))))) (.val (.lit (.str "all")))) (.one (.and (.cons (.val (.call "is_from" 1 (.cons (.at (.slot 0) (.val (.lit (.int 1)))) (.cons (.lit (.int 0)) .nil)))) (.one (.cmp .le (.val (.at (.slot 0) (.val (.lit (.int 1))))) (.val (.fn .len (.cons (.val (.at (.slot 0) (.val (.lit (.int 2))))) .nil))))))))))))
    .nil))))))
def c_is_done_1i : I := (.seq (.at (.slot 0) (.val (.lit (.int 2)))))
def c_is_done_1c : C := (.one (.cmp .inn (.slot 5) (.slot 2)))
def c_is_done_1e : E := (.atD (.slot 1) (.slot 5))
def c_is_done_1 : L := (.comp c_is_done_1e (.name 5) c_is_done_1i c_is_done_1c [("course", 5)])
def c_is_done_2i : I := (.seq (.at (.slot 0) (.val (.neg (.val (.lit (.int 1)))))))
def c_is_done_2c : C := (.one (.val (.call "is_done" 8 (.cons (.var 4) (.cons (.var 1) (.cons (.var 2) .nil))))))
def c_is_done_2e : E := (.lit (.int 1))
def c_is_done_2 : L := (.comp c_is_done_2e (.name 4) c_is_done_2i c_is_done_2c [("own", 4)])
def b_is_done : B := (.cons (.ife (.cmp .eq (.val (.at (.slot 0) (.val (.lit (.int 0))))) (.val (.lit (.str "course")))) (.cons (.ret (.test (.cmp .inn (.val (.at (.slot 0) (.val (.lit (.int 1))))) (.slot 2))))
    .nil) .nil)
    (.cons (.ife (.cmp .eq (.val (.at (.slot 0) (.val (.lit (.int 0))))) (.val (.lit (.str "points")))) (.cons (.ret (.test (.cmp .ge (.val (.fn .sum (.cons (.val (.fresh c_is_done_1)) .nil))) (.val (.at (.slot 0) (.val (.lit (.int 1))))))))
    .nil) .nil)
    (.cons (.asg 3 (.fn .len (.cons (.val (.fresh c_is_done_2)) .nil)))
    (.cons (.ret (.test (.cmp .ge (.slot 3) (.val (.ite (.cmp .eq (.val (.at (.slot 0) (.val (.lit (.int 0))))) (.val (.lit (.str "all")))) (.fn .len (.cons (.val (.at (.slot 0) (.val (.lit (.int 1))))) .nil)) (.at (.slot 0) (.val (.lit (.int 1)))))))))
    .nil))))
def c_fewest_left_1i : I := (.seq (.var 3))
def c_fewest_left_1c : C := (.one (.cmp .notin (.slot 6) (.slot 2)))
def c_fewest_left_1e : E := (.var 6)
def c_fewest_left_1 : L := (.comp c_fewest_left_1e (.name 6) c_fewest_left_1i c_fewest_left_1c [("course", 6)])
def b_fewest_left_1 : B := (.cons (.ife (.val (.call "is_done" 8 (.cons (.var 0) (.cons (.var 1) (.cons (.call "set_of" 4 (.cons (.bin .add (.slot 2) (.slot 5)) .nil)) .nil))))) (.cons (.ret (.var 5))
    .nil) .nil)
    .nil)
def b_fewest_left : B := (.cons (.asg 4 (.tupOf (.val (.fresh c_fewest_left_1))))
    (.cons (.for (.name 5) (.seq (.call "all_sets" 6 (.cons (.var 4) .nil))) b_fewest_left_1)
    (.cons (.ret (.lit .none))
    .nil)))
def b__law_draws_2 : B := (.cons (.ife (.cmp .gt (.slot 6) (.val (.lit (.int 0)))) (.cons (.app 2 (.bin .mod (.val (.fn .int (.cons (.slot 6) .nil))) (.val (.lit (.int 997)))))
    (.cons (.asg 6 (.bin .fdiv (.slot 6) (.val (.lit (.int 997)))))
    .nil)) .nil)
    .nil)
def b__law_draws_1 : B := (.cons (.asg 5 (.fn .abs (.cons (.val (.fn .int (.cons (.val (.atR 0 (.slot 4))) .nil))) .nil)))
    (.cons (.asg 3 (.bin .mod (.val (.fn .int (.cons (.val (.bin .add (.val (.bin .add (.val (.bin .mul (.slot 3) (.val (.lit (.int 48271))))) (.val (.bin .mod (.slot 5) (.val (.lit (.int 1000003))))))) (.slot 4))) .nil))) (.val (.lit (.int 65537)))))
    (.cons (.asg 6 (.lit (.int 0)))
    (.cons (.ife (.cmp .ge (.slot 5) (.val (.bin .pow (.val (.lit (.int 10))) (.val (.lit (.int 18)))))) (.cons (.asg 6 (.var 5))
    .nil) (.cons (.app 2 (.bin .mod (.val (.fn .int (.cons (.slot 5) .nil))) (.val (.lit (.int 997)))))
    (.cons (.app 2 (.bin .mod (.val (.bin .mod (.val (.fn .int (.cons (.val (.bin .add (.val (.bin .mul (.slot 3) (.val (.lit (.int 69621))))) (.val (.lit (.int 5))))) .nil))) (.val (.lit (.int 65521))))) (.val (.lit (.int 997)))))
    .nil)))
    (.cons (.for (.name 7) (.rng1 (.cons (.val (.lit (.int 60))) .nil)) b__law_draws_2)
    .nil)))))
def b__law_draws_3 : B := (.cons (.asg 3 (.bin .mod (.val (.fn .int (.cons (.val (.bin .add (.val (.bin .add (.val (.bin .mul (.slot 3) (.val (.lit (.int 16807))))) (.slot 4))) (.val (.lit (.int 1))))) .nil))) (.val (.lit (.int 65537)))))
    (.cons (.app 2 (.bin .mod (.val (.fn .int (.cons (.slot 3) .nil))) (.val (.lit (.int 997)))))
    .nil))
def b__law_draws : B := (.cons (.asgL 2 (.disp .nil))
    (.cons (.asg 3 (.lit (.int 7)))
    (.cons (.for (.name 4) (.rng1 (.cons (.val (.lenR 0)) .nil)) b__law_draws_1)
    (.cons (.for (.name 4) (.rng1 (.cons (.slot 1) .nil)) b__law_draws_3)
    (.cons (.ret (.cut (.slot 2) .no (.yes (.slot 1))))
    .nil)))))
def b__law_next : B := (.cons (.augD 0 (.val (.lit (.str "at"))) (.val (.lit (.int 1))))
    (.cons (.ife (.cmp .gt (.val (.atD (.slot 0) (.val (.lit (.str "at"))))) (.val (.fn .len (.cons (.val (.atD (.slot 0) (.val (.lit (.str "draws"))))) .nil)))) (.cons (.ret (.lit (.int 0)))
    .nil) .nil)
    (.cons (.ret (.bin .mod (.val (.fn .int (.cons (.val (.at (.val (.atD (.slot 0) (.val (.lit (.str "draws"))))) (.val (.bin .sub (.val (.atD (.slot 0) (.val (.lit (.str "at"))))) (.val (.lit (.int 1))))))) .nil))) (.slot 1)))
    .nil)))
def b__law_pick : B := (.cons (.ret (.at (.slot 1) (.val (.callW "_law_next" 11 0 (.cons (.fn .len (.cons (.slot 1) .nil)) .nil)))))
    .nil)
def b__law_says : B := (.cons (.ret (.test (.and (.cons (.val (.isi .bool (.slot 0))) (.one (.cmp .eq (.slot 0) (.slot 1)))))))
    .nil)
def c__law_same_1i : I := (.rng1 (.cons (.val (.fn .len (.cons (.slot 1) .nil))) .nil))
def c__law_same_1c : C := (.one (.not (.val (.call "_law_same" 14 (.cons (.at (.slot 0) (.slot 2)) (.cons (.at (.slot 1) (.slot 2)) .nil))))))
def c__law_same_1e : E := (.var 2)
def c__law_same_1 : L := (.comp c__law_same_1e (.name 2) c__law_same_1i c__law_same_1c [("k", 2)])
def b__law_same : B := (.cons (.ife (.val (.isi .tuple (.slot 1))) (.cons (.ife (.or (.cons (.not (.val (.isi .tuple (.slot 0)))) (.one (.cmp .ne (.val (.fn .len (.cons (.slot 0) .nil))) (.val (.fn .len (.cons (.slot 1) .nil))))))) (.cons (.ret (.lit (.bool false)))
    .nil) .nil)
    (.cons (.ret (.test (.cmp .eq (.val (.fresh c__law_same_1)) (.val (.fresh (.disp .nil))))))
    .nil)) .nil)
    (.cons (.ife (.cmp .is (.slot 1) (.val (.lit .none))) (.cons (.ret (.test (.cmp .is (.slot 0) (.val (.lit .none)))))
    .nil) .nil)
    (.cons (.ife (.val (.isi .str (.slot 1))) (.cons (.ret (.test (.and (.cons (.val (.isi .str (.slot 0))) (.one (.cmp .eq (.slot 0) (.slot 1)))))))
    .nil) .nil)
    (.cons (.ret (.test (.and (.cons (.val (.isi .int (.slot 0))) (.cons (.cmp .eq (.val (.isi .bool (.slot 0))) (.val (.isi .bool (.slot 1)))) (.one (.cmp .eq (.slot 0) (.slot 1))))))))
    .nil))))
def b__law_bent : B := (.cons (.ife (.and (.cons (.val (.isi .tuple (.slot 1))) (.cons (.cmp .ne (.slot 1) (.val (.tup .nil))) (.one (.cmp .gt (.val (.callW "_law_next" 11 0 (.cons (.lit (.int 4)) .nil))) (.val (.lit (.int 0)))))))) (.cons (.asg 2 (.callW "_law_next" 11 0 (.cons (.fn .len (.cons (.slot 1) .nil)) .nil)))
    (.cons (.ret (.bin .add (.val (.bin .add (.val (.cut (.slot 1) .no (.yes (.slot 2)))) (.val (.tup (.cons (.callW "_law_bent" 15 0 (.cons (.at (.slot 1) (.slot 2)) .nil)) .nil))))) (.val (.cut (.slot 1) (.yes (.val (.bin .add (.slot 2) (.val (.lit (.int 1)))))) .no))))
    .nil)) .nil)
    (.cons (.ife (.val (.isi .tuple (.slot 1))) (.cons (.asg 2 (.callW "_law_next" 11 0 (.cons (.bin .add (.val (.fn .len (.cons (.slot 1) .nil))) (.val (.lit (.int 1)))) .nil)))
    (.cons (.ret (.callW "_law_pick" 12 0 (.cons (.fresh (.disp (.cons (.bin .add (.val (.cut (.slot 1) .no (.yes (.slot 2)))) (.val (.cut (.slot 1) (.yes (.val (.bin .add (.slot 2) (.val (.lit (.int 1)))))) .no))) (.cons (.bin .add (.slot 1) (.val (.cut (.slot 1) (.yes (.val (.neg (.val (.lit (.int 1)))))) .no))) (.cons (.rev (.var 1)) (.cons (.lit .none) (.cons (.tup .nil) (.cons (.fresh (.of (.slot 1))) .nil)))))))) .nil)))
    .nil)) .nil)
    (.cons (.ife (.val (.isi .str (.slot 1))) (.cons (.ret (.callW "_law_pick" 12 0 (.cons (.fresh (.disp (.cons (.lit (.str "is")) (.cons (.lit (.str "not")) (.cons (.lit (.str "")) (.cons (.lit (.str "suppose")) (.cons (.lit (.str "A")) (.cons (.lit .none) (.cons (.lit (.int 0)) (.cons (.lit (.str "add")) (.cons (.lit (.str "both")) (.cons (.lit (.str "so")) .nil)))))))))))) .nil)))
    .nil) .nil)
    (.cons (.ret (.ite (.val (.isi .int (.slot 1))) (.callW "_law_pick" 12 0 (.cons (.fresh (.disp (.cons (.bin .add (.slot 1) (.val (.lit (.int 1)))) (.cons (.bin .sub (.slot 1) (.val (.lit (.int 1)))) (.cons (.lit (.int 0)) (.cons (.lit (.int 1)) (.cons (.lit (.bool true)) (.cons (.bin .add (.slot 1) (.val (.lit (.int 7)))) (.cons (.lit .none) .nil))))))))) .nil)) (.lit (.int 0))))
    .nil))))
def c__law_sets_1i : I := (.seq (.var 1))
def c__law_sets_1c : C := .yes
def c__law_sets_1e : E := (.bin .add (.slot 4) (.val (.tup (.cons (.var 2) .nil))))
def c__law_sets_1 : L := (.comp c__law_sets_1e (.name 4) c__law_sets_1i c__law_sets_1c [("some", 4)])
def b__law_sets_1 : B := (.cons (.asg 1 (.bin .add (.slot 1) (.val (.fresh c__law_sets_1))))
    .nil)
def c__law_sets_3i : I := (.seq (.var 1))
def c__law_sets_3c : C := .yes
def c__law_sets_3e : E := (.tup (.cons (.fn .len (.cons (.slot 4) .nil)) (.cons (.var 4) .nil)))
def c__law_sets_3 : L := (.comp c__law_sets_3e (.name 4) c__law_sets_3i c__law_sets_3c [("some", 4)])
def c__law_sets_2i : I := (.seq (.fresh (.sort (.val (.fresh c__law_sets_3)))))
def c__law_sets_2c : C := .yes
def c__law_sets_2e : E := (.var 4)
def c__law_sets_2 : L := (.comp c__law_sets_2e (.tup 2 (.cons (.name 3) (.cons (.name 4) .nil))) c__law_sets_2i c__law_sets_2c [("size", 3), ("some", 4)])
def b__law_sets : B := (.cons (.asg 1 (.fresh (.disp (.cons (.tup .nil) .nil))))
    (.cons (.for (.name 2) (.seq (.var 0)) b__law_sets_1)
    (.cons (.ret (.fresh c__law_sets_2))
    .nil)))
def b__law_is_number : B := (.cons (.ret (.test (.and (.cons (.val (.isi .int (.slot 0))) (.one (.not (.val (.isi .bool (.slot 0)))))))))
    .nil)
def c__law_rule_1i : I := (.rng1 (.cons (.val (.lit (.int 5))) .nil))
def c__law_rule_1c : C := (.one (.cmp .eq (.val (.callW "_law_next" 11 0 (.cons (.lit (.int 2)) .nil))) (.val (.lit (.int 0)))))
def c__law_rule_1e : E := (.var 5)
def c__law_rule_1 : L := (.comp c__law_rule_1e (.name 5) c__law_rule_1i c__law_rule_1c [("c", 5)])
def c__law_rule_2i : I := (.rng1 (.cons (.val (.callW "_law_next" 11 0 (.cons (.lit (.int 4)) .nil))) .nil))
def c__law_rule_2c : C := .yes
def c__law_rule_2e : E := (.callW "_law_rule" 18 0 (.cons (.bin .sub (.slot 1) (.val (.lit (.int 1)))) .nil))
def c__law_rule_2 : L := (.comp c__law_rule_2e (.name 4) c__law_rule_2i c__law_rule_2c [("k", 4)])
def b__law_rule : B := (.cons (.asg 2 (.ite (.cmp .gt (.slot 1) (.val (.lit (.int 0)))) (.callW "_law_next" 11 0 (.cons (.lit (.int 5)) .nil)) (.callW "_law_next" 11 0 (.cons (.lit (.int 2)) .nil))))
    (.cons (.ife (.cmp .eq (.slot 2) (.val (.lit (.int 0)))) (.cons (.ret (.tup (.cons (.lit (.str "course")) (.cons (.callW "_law_next" 11 0 (.cons (.lit (.int 5)) .nil)) .nil))))
    .nil) .nil)
    (.cons (.ife (.cmp .eq (.slot 2) (.val (.lit (.int 1)))) (.cons (.ret (.tup (.cons (.lit (.str "points")) (.cons (.callW "_law_next" 11 0 (.cons (.lit (.int 9)) .nil)) (.cons (.tupOf (.val (.fresh c__law_rule_1))) .nil)))))
    .nil) .nil)
    (.cons (.asg 3 (.tupOf (.val (.fresh c__law_rule_2))))
    (.cons (.ret (.ite (.cmp .eq (.slot 2) (.val (.lit (.int 2)))) (.tup (.cons (.lit (.str "all")) (.cons (.var 3) .nil))) (.tup (.cons (.lit (.str "of")) (.cons (.callW "_law_next" 11 0 (.cons (.bin .add (.val (.fn .len (.cons (.slot 3) .nil))) (.val (.lit (.int 1)))) .nil)) (.cons (.var 3) .nil))))))
    .nil)))))
def c__law_is_part_1i : I := (.seq (.var 0))
def c__law_is_part_1c : C := (.one (.or (.cons (.not (.val (.call "_law_is_number" 17 (.cons (.var 1) .nil)))) (.one (.cmp .lt (.slot 1) (.val (.lit (.int 0))))))))
def c__law_is_part_1e : E := (.var 1)
def c__law_is_part_1 : L := (.comp c__law_is_part_1e (.name 1) c__law_is_part_1i c__law_is_part_1c [("x", 1)])
def b__law_is_part : B := (.cons (.ife (.or (.cons (.not (.val (.isi .tuple (.slot 0)))) (.one (.cmp .ne (.val (.fresh c__law_is_part_1)) (.val (.fresh (.disp .nil))))))) (.cons (.ret (.lit (.bool false)))
    .nil) .nil)
    (.cons (.ret (.test (.cmp .eq (.val (.fresh (.of (.slot 0)))) (.val (.fresh (.sortSet (.slot 0)))))))
    .nil))
def c__law_is_rule_1i : I := (.seq (.var 1))
def c__law_is_rule_1c : C := (.one (.not (.val (.call "_law_is_rule" 20 (.cons (.var 2) .nil)))))
def c__law_is_rule_1e : E := (.var 2)
def c__law_is_rule_1 : L := (.comp c__law_is_rule_1e (.name 2) c__law_is_rule_1i c__law_is_rule_1c [("rule", 2)])
def b__law_is_rule : B := (.cons (.ife (.or (.cons (.not (.val (.isi .tuple (.slot 0)))) (.cons (.cmp .notin (.val (.fn .len (.cons (.slot 0) .nil))) (.val (.tup (.cons (.lit (.int 2)) (.cons (.lit (.int 3)) .nil))))) (.one (.not (.val (.isi .str (.val (.at (.slot 0) (.val (.lit (.int 0)))))))))))) (.cons (.ret (.lit (.bool false)))
    .nil) .nil)
    (.cons (.ife (.cmp .eq (.val (.at (.slot 0) (.val (.lit (.int 0))))) (.val (.lit (.str "course")))) (.cons (.ret (.test (.and (.cons (.cmp .eq (.val (.fn .len (.cons (.slot 0) .nil))) (.val (.lit (.int 2)))) (.cons (.val (.call "_law_is_number" 17 (.cons (.at (.slot 0) (.val (.lit (.int 1)))) .nil))) (.one (.cmp .ge (.val (.at (.slot 0) (.val (.lit (.int 1))))) (.val (.lit (.int 0))))))))))
    .nil) .nil)
    (.cons (.ife (.cmp .eq (.val (.at (.slot 0) (.val (.lit (.int 0))))) (.val (.lit (.str "points")))) (.cons (.ret (.test (.and (.cons (.cmp .eq (.val (.fn .len (.cons (.slot 0) .nil))) (.val (.lit (.int 3)))) (.cons (.val (.call "_law_is_number" 17 (.cons (.at (.slot 0) (.val (.lit (.int 1)))) .nil))) (.cons (.cmp .ge (.val (.at (.slot 0) (.val (.lit (.int 1))))) (.val (.lit (.int 0)))) (.one (.val (.call "_law_is_part" 19 (.cons (.at (.slot 0) (.val (.lit (.int 2)))) .nil))))))))))
    .nil) .nil)
    (.cons (.asg 1 (.at (.slot 0) (.val (.bin .sub (.val (.fn .len (.cons (.slot 0) .nil))) (.val (.lit (.int 1)))))))
    (.cons (.ife (.or (.cons (.not (.val (.isi .tuple (.slot 1)))) (.one (.cmp .ne (.val (.fresh c__law_is_rule_1)) (.val (.fresh (.disp .nil))))))) (.cons (.ret (.lit (.bool false)))
    .nil) .nil)
    (.cons (.ife (.cmp .eq (.val (.at (.slot 0) (.val (.lit (.int 0))))) (.val (.lit (.str "all")))) (.cons (.ret (.test (.cmp .eq (.val (.fn .len (.cons (.slot 0) .nil))) (.val (.lit (.int 2))))))
    .nil) .nil)
    (.cons (.ret (.test (.and (.cons (.cmp .eq (.val (.at (.slot 0) (.val (.lit (.int 0))))) (.val (.lit (.str "of")))) (.cons (.cmp .eq (.val (.fn .len (.cons (.slot 0) .nil))) (.val (.lit (.int 3)))) (.cons (.val (.call "_law_is_number" 17 (.cons (.at (.slot 0) (.val (.lit (.int 1)))) .nil))) (.one (.chain .le .le (.val (.lit (.int 0))) (.val (.at (.slot 0) (.val (.lit (.int 1))))) (.val (.fn .len (.cons (.slot 1) .nil)))))))))))
    .nil)))))))
def c__law_done_1i : I := (.seq (.at (.slot 0) (.val (.lit (.int 2)))))
def c__law_done_1c : C := (.one (.cmp .inn (.slot 4) (.slot 2)))
def c__law_done_1e : E := (.atD (.slot 1) (.slot 4))
def c__law_done_1 : L := (.comp c__law_done_1e (.name 4) c__law_done_1i c__law_done_1c [("c", 4)])
def c__law_done_2i : I := (.seq (.at (.slot 0) (.val (.lit (.int 1)))))
def c__law_done_2c : C := (.one (.not (.val (.call "_law_done" 21 (.cons (.var 3) (.cons (.var 1) (.cons (.var 2) .nil)))))))
def c__law_done_2e : E := (.var 3)
def c__law_done_2 : L := (.comp c__law_done_2e (.name 3) c__law_done_2i c__law_done_2c [("own", 3)])
def c__law_done_3i : I := (.seq (.at (.slot 0) (.val (.lit (.int 2)))))
def c__law_done_3c : C := (.one (.val (.call "_law_done" 21 (.cons (.var 3) (.cons (.var 1) (.cons (.var 2) .nil))))))
def c__law_done_3e : E := (.var 3)
def c__law_done_3 : L := (.comp c__law_done_3e (.name 3) c__law_done_3i c__law_done_3c [("own", 3)])
def b__law_done : B := (.cons (.ife (.cmp .eq (.val (.at (.slot 0) (.val (.lit (.int 0))))) (.val (.lit (.str "course")))) (.cons (.ret (.test (.cmp .inn (.val (.at (.slot 0) (.val (.lit (.int 1))))) (.slot 2))))
    .nil) .nil)
    (.cons (.ife (.cmp .eq (.val (.at (.slot 0) (.val (.lit (.int 0))))) (.val (.lit (.str "points")))) (.cons (.ret (.test (.cmp .ge (.val (.fn .sum (.cons (.val (.fresh c__law_done_1)) .nil))) (.val (.at (.slot 0) (.val (.lit (.int 1))))))))
    .nil) .nil)
    (.cons (.ife (.cmp .eq (.val (.at (.slot 0) (.val (.lit (.int 0))))) (.val (.lit (.str "all")))) (.cons (.ret (.test (.cmp .eq (.val (.fresh c__law_done_2)) (.val (.fresh (.disp .nil))))))
    .nil) .nil)
    (.cons (.ret (.test (.cmp .ge (.val (.fn .len (.cons (.val (.fresh c__law_done_3)) .nil))) (.val (.at (.slot 0) (.val (.lit (.int 1))))))))
    .nil))))
def s_law_1 : S := (.par [3, 4] (.val (.callW "_law_rule" 18 1 (.cons (.lit (.int 3)) .nil)) (.ownD .new .nil)))
def s_law_2 : S := (.putD 4 (.slot 5) (.callW "_law_next" 11 1 (.cons (.lit (.int 5)) .nil)))
def b_law_2 : B := (.cons s_law_2
    .nil)
def s_law_3 : S := (.for (.name 5) (.rng1 (.cons (.val (.lit (.int 5))) .nil)) b_law_2)
def c_law_1i : I := (.rng1 (.cons (.val (.lit (.int 5))) .nil))
def c_law_1c : C := (.one (.cmp .eq (.val (.callW "_law_next" 11 1 (.cons (.lit (.int 4)) .nil))) (.val (.lit (.int 0)))))
def c_law_1e : E := (.var 5)
def c_law_1 : L := (.comp c_law_1e (.name 5) c_law_1i c_law_1c [("c", 5)])
def s_law_4 : S := (.asg 6 (.tupOf (.val (.fresh c_law_1))))
def c_law_2i : I := (.rng1 (.cons (.val (.lit (.int 5))) .nil))
def c_law_2c : C := (.one (.cmp .gt (.val (.callW "_law_next" 11 1 (.cons (.lit (.int 4)) .nil))) (.val (.lit (.int 0)))))
def c_law_2e : E := (.var 5)
def c_law_2 : L := (.comp c_law_2e (.name 5) c_law_2i c_law_2c [("c", 5)])
def s_law_5 : S := (.asg 7 (.tupOf (.val (.fresh c_law_2))))
def s_law_6 : S := (.ife (.not (.val (.call "_law_says" 13 (.cons (.call "is_done" 8 (.cons (.var 3) (.cons (.freshD (.copy (.slot 4))) (.cons (.var 6) .nil)))) (.cons (.call "_law_done" 21 (.cons (.var 3) (.cons (.var 4) (.cons (.var 6) .nil)))) .nil))))) (.cons (.ret (.lit (.bool false)))
    .nil) .nil)
def s_law_7 : S := (.asg 8 (.fresh (.disp .nil)))
def c_law_3i : I := (.seq (.var 7))
def c_law_3c : C := (.one (.cmp .notin (.slot 5) (.slot 6)))
def c_law_3e : E := (.var 5)
def c_law_3 : L := (.comp c_law_3e (.name 5) c_law_3i c_law_3c [("c", 5)])
def s_law_8 : S := (.asg 8 (.bin .add (.slot 8) (.val (.ite (.val (.call "_law_done" 21 (.cons (.var 3) (.cons (.var 4) (.cons (.bin .add (.slot 6) (.slot 9)) .nil))))) (.fresh (.disp (.cons (.var 9) .nil))) (.fresh (.disp .nil))))))
def b_law_3 : B := (.cons s_law_8
    .nil)
def s_law_9 : S := (.for (.name 9) (.seq (.call "_law_sets" 16 (.cons (.fresh c_law_3) .nil))) b_law_3)
def s_law_10 : S := (.ife (.not (.val (.call "_law_same" 14 (.cons (.call "fewest_left" 9 (.cons (.var 3) (.cons (.freshD (.copy (.slot 4))) (.cons (.var 6) (.cons (.var 7) .nil))))) (.cons (.ite (.cmp .ne (.slot 8) (.val (.fresh (.disp .nil)))) (.at (.slot 8) (.val (.lit (.int 0)))) (.lit .none)) .nil))))) (.cons (.ret (.lit (.bool false)))
    .nil) .nil)
def s_law_11 : S := (.asg 11 (.ite (.cmp .gt (.slot 10) (.val (.lit (.int 0)))) (.callW "_law_bent" 15 1 (.cons (.var 3) .nil)) (.var 3)))
def s_law_12 : S := (.ife (.not (.val (.call "_law_says" 13 (.cons (.call "is_rule" 7 (.cons (.var 11) .nil)) (.cons (.call "_law_is_rule" 20 (.cons (.var 11) .nil)) .nil))))) (.cons (.ret (.lit (.bool false)))
    .nil) .nil)
def b_law_4 : B := (.cons s_law_11
    (.cons s_law_12
    .nil))
def s_law_13 : S := (.for (.name 10) (.rng1 (.cons (.val (.lit (.int 4))) .nil)) b_law_4)
def b_law_1 : B := (.cons s_law_1
    (.cons s_law_3
    (.cons s_law_4
    (.cons s_law_5
    (.cons s_law_6
    (.cons s_law_7
    (.cons s_law_9
    (.cons s_law_10
    (.cons s_law_13
    .nil)))))))))
def b_law : B := (.cons (.asgD 1 (.disp (.cons (.inr "draws") (.call "_law_draws" 10 (.cons (.var 0) (.cons (.lit (.int 500)) .nil))) (.cons (.inr "at") (.lit (.int 0)) .nil))))
    (.cons (.for (.name 2) (.rng1 (.cons (.val (.lit (.int 6))) .nil)) b_law_1)
    (.cons (.ret (.lit (.bool true)))
    .nil)))
def T : List Fd := [⟨1, 1, b_is_number⟩,
  ⟨2, 2, b_is_from⟩,
  ⟨1, 2, b_is_ascending⟩,
  ⟨1, 2, b_is_number_set⟩,
  ⟨1, 1, b_set_of⟩,
  ⟨2, 5, b_chosen⟩,
  ⟨1, 3, b_all_sets⟩,
  ⟨1, 2, b_is_rule⟩,
  ⟨3, 6, b_is_done⟩,
  ⟨4, 7, b_fewest_left⟩,
  ⟨2, 8, b__law_draws⟩,
  ⟨2, 2, b__law_next⟩,
  ⟨2, 2, b__law_pick⟩,
  ⟨2, 2, b__law_says⟩,
  ⟨2, 3, b__law_same⟩,
  ⟨2, 3, b__law_bent⟩,
  ⟨1, 5, b__law_sets⟩,
  ⟨1, 1, b__law_is_number⟩,
  ⟨2, 6, b__law_rule⟩,
  ⟨1, 2, b__law_is_part⟩,
  ⟨1, 3, b__law_is_rule⟩,
  ⟨3, 5, b__law_done⟩,
  ⟨1, 12, b_law⟩]
def C : Nat → D
  | _ => .none
def Y (n : Nat) : Sys := tabS T C n
def j_is_number : Nat := 0
def j_is_from : Nat := 1
def j_is_ascending : Nat := 2
def j_is_number_set : Nat := 3
def j_set_of : Nat := 4
def j_chosen : Nat := 5
def j_all_sets : Nat := 6
def j_is_rule : Nat := 7
def j_is_done : Nat := 8
def j_fewest_left : Nat := 9
def j__law_draws : Nat := 10
def j__law_next : Nat := 11
def j__law_pick : Nat := 12
def j__law_says : Nat := 13
def j__law_same : Nat := 14
def j__law_bent : Nat := 15
def j__law_sets : Nat := 16
def j__law_is_number : Nat := 17
def j__law_rule : Nat := 18
def j__law_is_part : Nat := 19
def j__law_is_rule : Nat := 20
def j__law_done : Nat := 21
def j_law : Nat := 22
end K26

set_option maxHeartbeats 4000000
namespace K26
open PySem L2 Pf
theorem np_is_number (n : Nat) : ((Y n).f 0).1 = 1 := tabS_np (d := ⟨1, 1, b_is_number⟩) rfl n
theorem f_is_number (n : Nat) : ((Y (n + 1)).f 0).2 = fBody 1 1 (evB (Y n) b_is_number) := rfl
theorem np_is_from (n : Nat) : ((Y n).f 1).1 = 2 := tabS_np (d := ⟨2, 2, b_is_from⟩) rfl n
theorem f_is_from (n : Nat) : ((Y (n + 1)).f 1).2 = fBody 2 2 (evB (Y n) b_is_from) := rfl
theorem np_is_ascending (n : Nat) : ((Y n).f 2).1 = 1 := tabS_np (d := ⟨1, 2, b_is_ascending⟩) rfl n
theorem f_is_ascending (n : Nat) : ((Y (n + 1)).f 2).2 = fBody 1 2 (evB (Y n) b_is_ascending) := rfl
theorem np_is_number_set (n : Nat) : ((Y n).f 3).1 = 1 := tabS_np (d := ⟨1, 2, b_is_number_set⟩) rfl n
theorem f_is_number_set (n : Nat) : ((Y (n + 1)).f 3).2 = fBody 1 2 (evB (Y n) b_is_number_set) := rfl
theorem np_set_of (n : Nat) : ((Y n).f 4).1 = 1 := tabS_np (d := ⟨1, 1, b_set_of⟩) rfl n
theorem f_set_of (n : Nat) : ((Y (n + 1)).f 4).2 = fBody 1 1 (evB (Y n) b_set_of) := rfl
theorem np_chosen (n : Nat) : ((Y n).f 5).1 = 2 := tabS_np (d := ⟨2, 5, b_chosen⟩) rfl n
theorem f_chosen (n : Nat) : ((Y (n + 1)).f 5).2 = fBody 2 5 (evB (Y n) b_chosen) := rfl
theorem np_all_sets (n : Nat) : ((Y n).f 6).1 = 1 := tabS_np (d := ⟨1, 3, b_all_sets⟩) rfl n
theorem f_all_sets (n : Nat) : ((Y (n + 1)).f 6).2 = fBody 1 3 (evB (Y n) b_all_sets) := rfl
theorem np_is_rule (n : Nat) : ((Y n).f 7).1 = 1 := tabS_np (d := ⟨1, 2, b_is_rule⟩) rfl n
theorem f_is_rule (n : Nat) : ((Y (n + 1)).f 7).2 = fBody 1 2 (evB (Y n) b_is_rule) := rfl
theorem np_is_done (n : Nat) : ((Y n).f 8).1 = 3 := tabS_np (d := ⟨3, 6, b_is_done⟩) rfl n
theorem f_is_done (n : Nat) : ((Y (n + 1)).f 8).2 = fBody 3 6 (evB (Y n) b_is_done) := rfl
theorem np_fewest_left (n : Nat) : ((Y n).f 9).1 = 4 := tabS_np (d := ⟨4, 7, b_fewest_left⟩) rfl n
theorem f_fewest_left (n : Nat) : ((Y (n + 1)).f 9).2 = fBody 4 7 (evB (Y n) b_fewest_left) := rfl
theorem np__law_draws (n : Nat) : ((Y n).f 10).1 = 2 := tabS_np (d := ⟨2, 8, b__law_draws⟩) rfl n
theorem f__law_draws (n : Nat) : ((Y (n + 1)).f 10).2 = fBody 2 8 (evB (Y n) b__law_draws) := rfl
theorem np__law_next (n : Nat) : ((Y n).f 11).1 = 2 := tabS_np (d := ⟨2, 2, b__law_next⟩) rfl n
theorem f__law_next (n : Nat) : ((Y (n + 1)).f 11).2 = fBody 2 2 (evB (Y n) b__law_next) := rfl
theorem np__law_pick (n : Nat) : ((Y n).f 12).1 = 2 := tabS_np (d := ⟨2, 2, b__law_pick⟩) rfl n
theorem f__law_pick (n : Nat) : ((Y (n + 1)).f 12).2 = fBody 2 2 (evB (Y n) b__law_pick) := rfl
theorem np__law_says (n : Nat) : ((Y n).f 13).1 = 2 := tabS_np (d := ⟨2, 2, b__law_says⟩) rfl n
theorem f__law_says (n : Nat) : ((Y (n + 1)).f 13).2 = fBody 2 2 (evB (Y n) b__law_says) := rfl
theorem np__law_same (n : Nat) : ((Y n).f 14).1 = 2 := tabS_np (d := ⟨2, 3, b__law_same⟩) rfl n
theorem f__law_same (n : Nat) : ((Y (n + 1)).f 14).2 = fBody 2 3 (evB (Y n) b__law_same) := rfl
theorem np__law_bent (n : Nat) : ((Y n).f 15).1 = 2 := tabS_np (d := ⟨2, 3, b__law_bent⟩) rfl n
theorem f__law_bent (n : Nat) : ((Y (n + 1)).f 15).2 = fBody 2 3 (evB (Y n) b__law_bent) := rfl
theorem np__law_sets (n : Nat) : ((Y n).f 16).1 = 1 := tabS_np (d := ⟨1, 5, b__law_sets⟩) rfl n
theorem f__law_sets (n : Nat) : ((Y (n + 1)).f 16).2 = fBody 1 5 (evB (Y n) b__law_sets) := rfl
theorem np__law_is_number (n : Nat) : ((Y n).f 17).1 = 1 := tabS_np (d := ⟨1, 1, b__law_is_number⟩) rfl n
theorem f__law_is_number (n : Nat) : ((Y (n + 1)).f 17).2 = fBody 1 1 (evB (Y n) b__law_is_number) := rfl
theorem np__law_rule (n : Nat) : ((Y n).f 18).1 = 2 := tabS_np (d := ⟨2, 6, b__law_rule⟩) rfl n
theorem f__law_rule (n : Nat) : ((Y (n + 1)).f 18).2 = fBody 2 6 (evB (Y n) b__law_rule) := rfl
theorem np__law_is_part (n : Nat) : ((Y n).f 19).1 = 1 := tabS_np (d := ⟨1, 2, b__law_is_part⟩) rfl n
theorem f__law_is_part (n : Nat) : ((Y (n + 1)).f 19).2 = fBody 1 2 (evB (Y n) b__law_is_part) := rfl
theorem np__law_is_rule (n : Nat) : ((Y n).f 20).1 = 1 := tabS_np (d := ⟨1, 3, b__law_is_rule⟩) rfl n
theorem f__law_is_rule (n : Nat) : ((Y (n + 1)).f 20).2 = fBody 1 3 (evB (Y n) b__law_is_rule) := rfl
theorem np__law_done (n : Nat) : ((Y n).f 21).1 = 3 := tabS_np (d := ⟨3, 5, b__law_done⟩) rfl n
theorem f__law_done (n : Nat) : ((Y (n + 1)).f 21).2 = fBody 3 5 (evB (Y n) b__law_done) := rfl
theorem np_law (n : Nat) : ((Y n).f 22).1 = 1 := tabS_np (d := ⟨1, 12, b_law⟩) rfl n
theorem f_law (n : Nat) : ((Y (n + 1)).f 22).2 = fBody 1 12 (evB (Y n) b_law) := rfl
theorem c_Y (n : Nat) : (Y n).c = C := tabS_c n

theorem next_ok (n : Nat) (ns : List Int) {k many : Int} (hk : 0 ≤ k) (hm : 0 < many) : ∃ r, 0 ≤ r ∧ r < many ∧ ((Y (n + 1)).f 11).2 [.odic true (W ns k), .dat (.int many)] = some (.int r, [.odic true (W ns (k + 1)), .dat (.int many)]) := by
  have hl : 2 < lim := by decide
  rw [f__law_next]
  by_cases h : k + 1 > (ns.length : Int)
  · refine ⟨0, by omega, hm, ?_⟩
    have h' : (ns.length : Int) < k + 1 := h
    simp [fBody, b__law_next, evB, evS, evE, evL, evO, evOs, evEs, evT, evTs, evI, evC, evP, evDd, evPs, evWs, evG, evGs, fSeq2, aft, fNext, fRet, fIf, fAsg, fAsgL, fAsgT, fAsgD, fPar, fWv, fWl, fW0, setWs, wiS, fLit, fVar, Pf.slotAt, varS, fBin, fNeg, negD, fCmp, fChain, fAnd, fOr, fNot, fBool, boolS, fTest, fIte, fAt, fAtD, fCut, fPart, fNoPart, fOs, fOs0, fFn, fVs, fVs0, fTup, fFresh, fDisp, fTupOf, fListOf, fIsi, fCall, fCallW, fVal, fSlotC, isSet, Pf.rs, Pf.rsS, Pf.rsV, rsAll, rsD, keyD, datS, datsS, setS_s, setS_dv, setS_ol, setS_dat, setS_none, setS_olst, setS_rlst, setS_fdic, setS_odic, gN, gT, gs0, gsC, lenIs, binD, addD, subD, mulD, fdivD, modD, cmpD, ordD, isD, isN, isiD, atD, fnD, intV, seqV, lstV, fApp, fAugD, fAugI, olS, odS, odH, inS, getElem_s, W_draws, W_at, W_put, W_len, hl, h', endV, outs, ownB]
  · have hlt : k.toNat < ns.length := by omega
    have ha : atI (ns.map PyData.int) (k + 1 - 1) = some (.int ns[k.toNat]) := by
      have e : k + 1 - 1 = (k.toNat : Int) := by omega
      rw [e]
      exact atI_nat (by rw [List.getElem?_map, List.getElem?_eq_getElem hlt]; rfl)
    rw [show k + 1 - 1 = k by omega] at ha
    obtain ⟨b1, b2⟩ := fm_bd (a := ns[k.toNat]) hm
    refine ⟨ns[k.toNat].fmod many, b1, b2, ?_⟩
    have h' : ¬ (ns.length : Int) < k + 1 := h
    have hm' : ¬ many = 0 := by omega
    simp [fBody, b__law_next, evB, evS, evE, evL, evO, evOs, evEs, evT, evTs, evI, evC, evP, evDd, evPs, evWs, evG, evGs, fSeq2, aft, fNext, fRet, fIf, fAsg, fAsgL, fAsgT, fAsgD, fPar, fWv, fWl, fW0, setWs, wiS, fLit, fVar, Pf.slotAt, varS, fBin, fNeg, negD, fCmp, fChain, fAnd, fOr, fNot, fBool, boolS, fTest, fIte, fAt, fAtD, fCut, fPart, fNoPart, fOs, fOs0, fFn, fVs, fVs0, fTup, fFresh, fDisp, fTupOf, fListOf, fIsi, fCall, fCallW, fVal, fSlotC, isSet, Pf.rs, Pf.rsS, Pf.rsV, rsAll, rsD, keyD, datS, datsS, setS_s, setS_dv, setS_ol, setS_dat, setS_none, setS_olst, setS_rlst, setS_fdic, setS_odic, gN, gT, gs0, gsC, lenIs, binD, addD, subD, mulD, fdivD, modD, cmpD, ordD, isD, isN, isiD, atD, fnD, intV, seqV, lstV, fApp, fAugD, fAugI, olS, odS, odH, inS, getElem_s, W_draws, W_at, W_put, W_len, hl, h', ha, hm', endV, outs, ownB]
theorem pick_ok (n : Nat) (ns : List Int) {k : Int} (hk : 0 ≤ k) {ds : List D} (hd : ds ≠ []) : ∃ d, d ∈ ds ∧ ((Y (n + 2)).f 12).2 [.odic true (W ns k), .dat (.list ds)] = some (d, [.odic true (W ns (k + 1)), .dat (.list ds)]) := by
  have hp : (0 : Int) < ds.length := by have := List.length_pos_iff.mpr hd; omega
  obtain ⟨r, r0, r1, hn⟩ := next_ok n ns hk hp
  have hlt : r.toNat < ds.length := by omega
  have ha : atI ds r = some ds[r.toNat] := by
    have e : r = (r.toNat : Int) := by omega
    conv => lhs; rw [e]
    exact atI_nat (List.getElem?_eq_getElem hlt)
  refine ⟨ds[r.toNat], List.getElem_mem hlt, ?_⟩
  rw [f__law_pick]
  simp [fBody, b__law_pick, evB, evS, evE, evL, evO, evOs, evEs, evT, evTs, evI, evC, evP, evDd, evPs, evWs, evG, evGs, fSeq2, aft, fNext, fRet, fIf, fAsg, fAsgL, fAsgT, fAsgD, fPar, fWv, fWl, fW0, setWs, wiS, fLit, fVar, Pf.slotAt, varS, fBin, fNeg, negD, fCmp, fChain, fAnd, fOr, fNot, fBool, boolS, fTest, fIte, fAt, fAtD, fCut, fPart, fNoPart, fOs, fOs0, fFn, fVs, fVs0, fTup, fFresh, fDisp, fTupOf, fListOf, fIsi, fCall, fCallW, fVal, fSlotC, isSet, Pf.rs, Pf.rsS, Pf.rsV, rsAll, rsD, keyD, datS, datsS, setS_s, setS_dv, setS_ol, setS_dat, setS_none, setS_olst, setS_rlst, setS_fdic, setS_odic, gN, gT, gs0, gsC, lenIs, binD, addD, subD, mulD, fdivD, modD, cmpD, ordD, isD, isN, isiD, atD, fnD, intV, seqV, lstV, fApp, fAugD, fAugI, olS, odS, odH, inS, getElem_s, np__law_next, hn, ha, endV, outs, ownB]
theorem draws_ok (n : Nat) (ns : List Int) (hl : ns.length ≤ 63) : ∃ rs : List Int, rs.length ≤ 500 ∧ ((Y (n + 1)).f 10).2 [.rlst (ns.map PyData.int), .dat (.int 500)] = some (.list (rs.map PyData.int), [.rlst (ns.map PyData.int), .dat (.int 500)]) := by
  have sm1 : ∀ c : Int, 0 ≤ c ∧ c < 65537 → Sm c := fun c h => sm_small (by omega)
  have s1 : Sm 48271 := sm_small (by decide)
  have s2 : Sm 69621 := sm_small (by decide)
  have s3 : Sm 16807 := sm_small (by decide)
  have s4 : Sm 997 := sm_small (by decide)
  let S : SV := .rlst (ns.map PyData.int)
  let E1 : List Int → Int → Option D → Option D → Option D → Option D → En := fun rs mixed o4 o5 o6 o7 => [some S, some (.dat (.int 500)), some (.olst (rs.map PyData.int)), some (.dat (.int mixed)), o4.map SV.dat, o5.map SV.dat, o6.map SV.dat, o7.map SV.dat]
  rw [f__law_draws]
  have hloop1 := loop_inv (bd := gN 4) (body := evB (Y n) b__law_draws_1) (P := fun i en => ∃ rs mixed o4 o5 o6 o7, en = E1 rs mixed o4 o5 o6 o7 ∧ 0 ≤ mixed ∧ mixed < 65537 ∧ rs.length ≤ 62 * i) (rngD 0 ns.length) 0 (E1 [] 7 none none none none) ⟨[], 7, none, none, none, none, rfl, by omega, by omega, by simp⟩ fun j d en hd hP => by
      obtain ⟨rs, mixed, o4, o5, o6, o7, rfl, m0, m1, hr⟩ := hP
      obtain ⟨hj, rfl⟩ := rngD_at hd
      have hA : atI (ns.map PyData.int) (0 + (j : Int)) = some (.int ns[j]) := by
        rw [Int.zero_add]
        exact atI_nat (by rw [List.getElem?_map, List.getElem?_eq_getElem hj]; rfl)
      have hA' : atI (ns.map PyData.int) (j : Int) = some (.int ns[j]) := by rw [Int.zero_add] at hA; exact hA
      let cell : Int := if ns[j] < 0 then -ns[j] else ns[j]
      let mx : Int := (mixed * 48271 + cell.fmod 1000003 + (j : Int)).fmod 65537
      obtain ⟨x0, x1⟩ := fm_bd (a := mixed * 48271 + cell.fmod 1000003 + (j : Int)) (b := 65537) (by decide)
      have sx : Sm mx := sm1 _ ⟨x0, x1⟩
      have smx := sm1 _ ⟨m0, m1⟩
      -- the inner loop
      have inner : ∀ (rs : List Int) (rest : Int) (o7 : Option D), rs.length ≤ 62 * (0 + j) + 2 → ∃ rs' o6' o7', fFor (evI (Y n) (.rng1 (.cons (.val (.lit (.int 60))) .nil))) (evG (.name 7)) (evB (Y n) b__law_draws_2) (E1 rs mx (some (.int (j : Int))) (some (.int cell)) (some (.int rest)) o7) = some (.next, E1 rs' mx (some (.int (j : Int))) (some (.int cell)) o6' o7') ∧ rs'.length ≤ 62 * (0 + j) + 2 + 60 := fun rs rest o7 hrs => by
        obtain ⟨en', h1, rs', rest', o7', rfl, h3⟩ := loop_inv (bd := gN 7) (body := evB (Y n) b__law_draws_2) (P := fun i en => ∃ rs' rest' o7', en = E1 rs' mx (some (.int (j : Int))) (some (.int cell)) (some (.int rest')) o7' ∧ rs'.length ≤ 62 * (0 + j) + 2 + i) (rngD 0 60) 0 (E1 rs mx (some (.int (j : Int))) (some (.int cell)) (some (.int rest)) o7) ⟨rs, rest, o7, rfl, hrs⟩ fun j' d en hd hP => by
            obtain ⟨rs', rest', o7', rfl, h3⟩ := hP
            obtain ⟨hj', rfl⟩ := rngD_at hd
            have hlim : rs'.length < lim := by unfold lim; omega
            by_cases hp : 0 < rest'
            · refine ⟨_, E1 (rs' ++ [rest'.fmod 997]) mx (some (.int (j : Int))) (some (.int cell)) (some (.int (rest'.fdiv 997))) (some (.int (0 + (j' : Int)))), gN_dv rfl, ?_, rs' ++ [rest'.fmod 997], _, _, rfl, by rw [List.length_append, List.length_singleton]; omega⟩
              simp [b__law_draws_2, evB, evS, evE, evL, evO, evOs, evEs, evT, evTs, evI, evC, evP, evDd, evPs, evWs, evG, evGs, fSeq2, aft, fNext, fRet, fIf, fAsg, fAsgL, fAsgT, fAsgD, fPar, fWv, fWl, fW0, setWs, wiS, fLit, fVar, Pf.slotAt, varS, fBin, fNeg, negD, fCmp, fChain, fAnd, fOr, fNot, fBool, boolS, fTest, fIte, fAt, fAtD, fCut, fPart, fNoPart, fOs, fOs0, fFn, fVs, fVs0, fTup, fFresh, fDisp, fTupOf, fListOf, fIsi, fCall, fCallW, fVal, fSlotC, isSet, Pf.rs, Pf.rsS, Pf.rsV, rsAll, rsD, keyD, datS, datsS, setS_s, setS_dv, setS_ol, setS_dat, setS_none, setS_olst, setS_rlst, setS_fdic, setS_odic, gN, gT, gs0, gsC, lenIs, binD, addD, subD, mulD, fdivD, modD, cmpD, ordD, isD, isN, isiD, atD, fnD, intV, seqV, lstV, fApp, fAugD, fAugI, olS, odS, odH, inS, getElem_s, E1, hp, hlim, s4]
            · refine ⟨_, E1 rs' mx (some (.int (j : Int))) (some (.int cell)) (some (.int rest')) (some (.int (0 + (j' : Int)))), gN_dv rfl, ?_, rs', _, _, rfl, by omega⟩
              simp [b__law_draws_2, evB, evS, evE, evL, evO, evOs, evEs, evT, evTs, evI, evC, evP, evDd, evPs, evWs, evG, evGs, fSeq2, aft, fNext, fRet, fIf, fAsg, fAsgL, fAsgT, fAsgD, fPar, fWv, fWl, fW0, setWs, wiS, fLit, fVar, Pf.slotAt, varS, fBin, fNeg, negD, fCmp, fChain, fAnd, fOr, fNot, fBool, boolS, fTest, fIte, fAt, fAtD, fCut, fPart, fNoPart, fOs, fOs0, fFn, fVs, fVs0, fTup, fFresh, fDisp, fTupOf, fListOf, fIsi, fCall, fCallW, fVal, fSlotC, isSet, Pf.rs, Pf.rsS, Pf.rsV, rsAll, rsD, keyD, datS, datsS, setS_s, setS_dv, setS_ol, setS_dat, setS_none, setS_olst, setS_rlst, setS_fdic, setS_odic, gN, gT, gs0, gsC, lenIs, binD, addD, subD, mulD, fdivD, modD, cmpD, ordD, isD, isN, isiD, atD, fnD, intV, seqV, lstV, fApp, fAugD, fAugI, olS, odS, odH, inS, getElem_s, E1, hp]
        refine ⟨rs', some (.int rest'), o7', ?_, by rw [rngD_len] at h3; omega⟩
        rw [evI, evG]
        unfold fFor
        simp [evB, evS, evE, evL, evO, evOs, evEs, evT, evTs, evI, evC, evP, evDd, evPs, evWs, evG, evGs, fSeq2, aft, fNext, fRet, fIf, fAsg, fAsgL, fAsgT, fAsgD, fPar, fWv, fWl, fW0, setWs, wiS, fLit, fVar, Pf.slotAt, varS, fBin, fNeg, negD, fCmp, fChain, fAnd, fOr, fNot, fBool, boolS, fTest, fIte, fAt, fAtD, fCut, fPart, fNoPart, fOs, fOs0, fFn, fVs, fVs0, fTup, fFresh, fDisp, fTupOf, fListOf, fIsi, fCall, fCallW, fVal, fSlotC, isSet, Pf.rs, Pf.rsS, Pf.rsV, rsAll, rsD, keyD, datS, datsS, setS_s, setS_dv, setS_ol, setS_dat, setS_none, setS_olst, setS_rlst, setS_fdic, setS_odic, gN, gT, gs0, gsC, lenIs, binD, addD, subD, mulD, fdivD, modD, cmpD, ordD, isD, isN, isiD, atD, fnD, intV, seqV, lstV, fApp, fAugD, fAugI, olS, odS, odH, inS, getElem_s, fRng1, int1]
        exact h1
      have hlim0 : rs.length < lim := by unfold lim; omega
      have hlim1 : rs.length + 1 < lim := by unfold lim; omega
      by_cases hbig : (1000000000000000000 : Int) ≤ cell
      · have hb2 : ¬ cell < 1000000000000000000 := by omega
        obtain ⟨rs', o6', o7', h1, h2⟩ := inner rs cell o7 (by omega)
        refine ⟨_, _, gN_dv rfl, ?_, rs', mx, some (.int (j : Int)), some (.int cell), o6', o7', rfl, x0, x1, by omega⟩
        refine B_next (en1 := E1 rs mixed (some (.int (j : Int))) (some (.int cell)) o6 o7) (by simp [evB, evS, evE, evL, evO, evOs, evEs, evT, evTs, evI, evC, evP, evDd, evPs, evWs, evG, evGs, fSeq2, aft, fNext, fRet, fIf, fAsg, fAsgL, fAsgT, fAsgD, fPar, fWv, fWl, fW0, setWs, wiS, fLit, fVar, Pf.slotAt, varS, fBin, fNeg, negD, fCmp, fChain, fAnd, fOr, fNot, fBool, boolS, fTest, fIte, fAt, fAtD, fCut, fPart, fNoPart, fOs, fOs0, fFn, fVs, fVs0, fTup, fFresh, fDisp, fTupOf, fListOf, fIsi, fCall, fCallW, fVal, fSlotC, isSet, Pf.rs, Pf.rsS, Pf.rsV, rsAll, rsD, keyD, datS, datsS, setS_s, setS_dv, setS_ol, setS_dat, setS_none, setS_olst, setS_rlst, setS_fdic, setS_odic, gN, gT, gs0, gsC, lenIs, binD, addD, subD, mulD, fdivD, modD, cmpD, ordD, isD, isN, isiD, atD, fnD, intV, seqV, lstV, fApp, fAugD, fAugI, olS, odS, odH, inS, getElem_s, E1, fAtR, rlS, hA', cell, S]) ?_
        refine B_next (en1 := E1 rs mx (some (.int (j : Int))) (some (.int cell)) o6 o7) (by simp [evB, evS, evE, evL, evO, evOs, evEs, evT, evTs, evI, evC, evP, evDd, evPs, evWs, evG, evGs, fSeq2, aft, fNext, fRet, fIf, fAsg, fAsgL, fAsgT, fAsgD, fPar, fWv, fWl, fW0, setWs, wiS, fLit, fVar, Pf.slotAt, varS, fBin, fNeg, negD, fCmp, fChain, fAnd, fOr, fNot, fBool, boolS, fTest, fIte, fAt, fAtD, fCut, fPart, fNoPart, fOs, fOs0, fFn, fVs, fVs0, fTup, fFresh, fDisp, fTupOf, fListOf, fIsi, fCall, fCallW, fVal, fSlotC, isSet, Pf.rs, Pf.rsS, Pf.rsV, rsAll, rsD, keyD, datS, datsS, setS_s, setS_dv, setS_ol, setS_dat, setS_none, setS_olst, setS_rlst, setS_fdic, setS_odic, gN, gT, gs0, gsC, lenIs, binD, addD, subD, mulD, fdivD, modD, cmpD, ordD, isD, isN, isiD, atD, fnD, intV, seqV, lstV, fApp, fAugD, fAugI, olS, odS, odH, inS, getElem_s, E1, smx, s1, mx]) ?_
        refine B_next (en1 := E1 rs mx (some (.int (j : Int))) (some (.int cell)) (some (.int 0)) o7) (by simp [evB, evS, evE, evL, evO, evOs, evEs, evT, evTs, evI, evC, evP, evDd, evPs, evWs, evG, evGs, fSeq2, aft, fNext, fRet, fIf, fAsg, fAsgL, fAsgT, fAsgD, fPar, fWv, fWl, fW0, setWs, wiS, fLit, fVar, Pf.slotAt, varS, fBin, fNeg, negD, fCmp, fChain, fAnd, fOr, fNot, fBool, boolS, fTest, fIte, fAt, fAtD, fCut, fPart, fNoPart, fOs, fOs0, fFn, fVs, fVs0, fTup, fFresh, fDisp, fTupOf, fListOf, fIsi, fCall, fCallW, fVal, fSlotC, isSet, Pf.rs, Pf.rsS, Pf.rsV, rsAll, rsD, keyD, datS, datsS, setS_s, setS_dv, setS_ol, setS_dat, setS_none, setS_olst, setS_rlst, setS_fdic, setS_odic, gN, gT, gs0, gsC, lenIs, binD, addD, subD, mulD, fdivD, modD, cmpD, ordD, isD, isN, isiD, atD, fnD, intV, seqV, lstV, fApp, fAugD, fAugI, olS, odS, odH, inS, getElem_s, E1]) ?_
        refine B_next (en1 := E1 rs mx (some (.int (j : Int))) (some (.int cell)) (some (.int cell)) o7) (by simp [evB, evS, evE, evL, evO, evOs, evEs, evT, evTs, evI, evC, evP, evDd, evPs, evWs, evG, evGs, fSeq2, aft, fNext, fRet, fIf, fAsg, fAsgL, fAsgT, fAsgD, fPar, fWv, fWl, fW0, setWs, wiS, fLit, fVar, Pf.slotAt, varS, fBin, fNeg, negD, fCmp, fChain, fAnd, fOr, fNot, fBool, boolS, fTest, fIte, fAt, fAtD, fCut, fPart, fNoPart, fOs, fOs0, fFn, fVs, fVs0, fTup, fFresh, fDisp, fTupOf, fListOf, fIsi, fCall, fCallW, fVal, fSlotC, isSet, Pf.rs, Pf.rsS, Pf.rsV, rsAll, rsD, keyD, datS, datsS, setS_s, setS_dv, setS_ol, setS_dat, setS_none, setS_olst, setS_rlst, setS_fdic, setS_odic, gN, gT, gs0, gsC, lenIs, binD, addD, subD, mulD, fdivD, modD, cmpD, ordD, isD, isN, isiD, atD, fnD, intV, seqV, lstV, fApp, fAugD, fAugI, olS, odS, odH, inS, getElem_s, E1, powD, hbig, hb2]) ?_
        refine B_next (by rw [evS]; exact h1) ?_
        rw [evB]; rfl
      · have hb2 : cell < 1000000000000000000 := by omega
        obtain ⟨rs', o6', o7', h1, h2⟩ := inner (rs ++ [cell.fmod 997, ((mx * 69621 + 5).fmod 65521).fmod 997]) 0 o7 (by simp; omega)
        refine ⟨_, _, gN_dv rfl, ?_, rs', mx, some (.int (j : Int)), some (.int cell), o6', o7', rfl, x0, x1, by omega⟩
        refine B_next (en1 := E1 rs mixed (some (.int (j : Int))) (some (.int cell)) o6 o7) (by simp [evB, evS, evE, evL, evO, evOs, evEs, evT, evTs, evI, evC, evP, evDd, evPs, evWs, evG, evGs, fSeq2, aft, fNext, fRet, fIf, fAsg, fAsgL, fAsgT, fAsgD, fPar, fWv, fWl, fW0, setWs, wiS, fLit, fVar, Pf.slotAt, varS, fBin, fNeg, negD, fCmp, fChain, fAnd, fOr, fNot, fBool, boolS, fTest, fIte, fAt, fAtD, fCut, fPart, fNoPart, fOs, fOs0, fFn, fVs, fVs0, fTup, fFresh, fDisp, fTupOf, fListOf, fIsi, fCall, fCallW, fVal, fSlotC, isSet, Pf.rs, Pf.rsS, Pf.rsV, rsAll, rsD, keyD, datS, datsS, setS_s, setS_dv, setS_ol, setS_dat, setS_none, setS_olst, setS_rlst, setS_fdic, setS_odic, gN, gT, gs0, gsC, lenIs, binD, addD, subD, mulD, fdivD, modD, cmpD, ordD, isD, isN, isiD, atD, fnD, intV, seqV, lstV, fApp, fAugD, fAugI, olS, odS, odH, inS, getElem_s, E1, fAtR, rlS, hA', cell, S]) ?_
        refine B_next (en1 := E1 rs mx (some (.int (j : Int))) (some (.int cell)) o6 o7) (by simp [evB, evS, evE, evL, evO, evOs, evEs, evT, evTs, evI, evC, evP, evDd, evPs, evWs, evG, evGs, fSeq2, aft, fNext, fRet, fIf, fAsg, fAsgL, fAsgT, fAsgD, fPar, fWv, fWl, fW0, setWs, wiS, fLit, fVar, Pf.slotAt, varS, fBin, fNeg, negD, fCmp, fChain, fAnd, fOr, fNot, fBool, boolS, fTest, fIte, fAt, fAtD, fCut, fPart, fNoPart, fOs, fOs0, fFn, fVs, fVs0, fTup, fFresh, fDisp, fTupOf, fListOf, fIsi, fCall, fCallW, fVal, fSlotC, isSet, Pf.rs, Pf.rsS, Pf.rsV, rsAll, rsD, keyD, datS, datsS, setS_s, setS_dv, setS_ol, setS_dat, setS_none, setS_olst, setS_rlst, setS_fdic, setS_odic, gN, gT, gs0, gsC, lenIs, binD, addD, subD, mulD, fdivD, modD, cmpD, ordD, isD, isN, isiD, atD, fnD, intV, seqV, lstV, fApp, fAugD, fAugI, olS, odS, odH, inS, getElem_s, E1, smx, s1, mx]) ?_
        refine B_next (en1 := E1 rs mx (some (.int (j : Int))) (some (.int cell)) (some (.int 0)) o7) (by simp [evB, evS, evE, evL, evO, evOs, evEs, evT, evTs, evI, evC, evP, evDd, evPs, evWs, evG, evGs, fSeq2, aft, fNext, fRet, fIf, fAsg, fAsgL, fAsgT, fAsgD, fPar, fWv, fWl, fW0, setWs, wiS, fLit, fVar, Pf.slotAt, varS, fBin, fNeg, negD, fCmp, fChain, fAnd, fOr, fNot, fBool, boolS, fTest, fIte, fAt, fAtD, fCut, fPart, fNoPart, fOs, fOs0, fFn, fVs, fVs0, fTup, fFresh, fDisp, fTupOf, fListOf, fIsi, fCall, fCallW, fVal, fSlotC, isSet, Pf.rs, Pf.rsS, Pf.rsV, rsAll, rsD, keyD, datS, datsS, setS_s, setS_dv, setS_ol, setS_dat, setS_none, setS_olst, setS_rlst, setS_fdic, setS_odic, gN, gT, gs0, gsC, lenIs, binD, addD, subD, mulD, fdivD, modD, cmpD, ordD, isD, isN, isiD, atD, fnD, intV, seqV, lstV, fApp, fAugD, fAugI, olS, odS, odH, inS, getElem_s, E1]) ?_
        refine B_next (en1 := E1 (rs ++ [cell.fmod 997, ((mx * 69621 + 5).fmod 65521).fmod 997]) mx (some (.int (j : Int))) (some (.int cell)) (some (.int 0)) o7) (by simp [evB, evS, evE, evL, evO, evOs, evEs, evT, evTs, evI, evC, evP, evDd, evPs, evWs, evG, evGs, fSeq2, aft, fNext, fRet, fIf, fAsg, fAsgL, fAsgT, fAsgD, fPar, fWv, fWl, fW0, setWs, wiS, fLit, fVar, Pf.slotAt, varS, fBin, fNeg, negD, fCmp, fChain, fAnd, fOr, fNot, fBool, boolS, fTest, fIte, fAt, fAtD, fCut, fPart, fNoPart, fOs, fOs0, fFn, fVs, fVs0, fTup, fFresh, fDisp, fTupOf, fListOf, fIsi, fCall, fCallW, fVal, fSlotC, isSet, Pf.rs, Pf.rsS, Pf.rsV, rsAll, rsD, keyD, datS, datsS, setS_s, setS_dv, setS_ol, setS_dat, setS_none, setS_olst, setS_rlst, setS_fdic, setS_odic, gN, gT, gs0, gsC, lenIs, binD, addD, subD, mulD, fdivD, modD, cmpD, ordD, isD, isN, isiD, atD, fnD, intV, seqV, lstV, fApp, fAugD, fAugI, olS, odS, odH, inS, getElem_s, E1, powD, hbig, hb2, hlim0, hlim1, sx, s2]) ?_
        refine B_next (by rw [evS]; exact h1) ?_
        rw [evB]; rfl
  obtain ⟨en1, h1, rs1, mixed1, o4, o5, o6, o7, rfl, m0, m1, hr1⟩ := hloop1
  rw [rngD_len] at hr1
  have hloop2 := loop_inv (bd := gN 4) (body := evB (Y n) b__law_draws_3) (P := fun i en => ∃ rs mixed o4, en = E1 rs mixed o4 o5 o6 o7 ∧ 0 ≤ mixed ∧ mixed < 65537 ∧ rs.length ≤ 62 * ns.length + i) (rngD 0 500) 0 (E1 rs1 mixed1 o4 o5 o6 o7) ⟨rs1, mixed1, o4, rfl, m0, m1, by omega⟩ fun j d en hd hP => by
      obtain ⟨rs, mixed, o4, rfl, m0, m1, hr⟩ := hP
      obtain ⟨hj, rfl⟩ := rngD_at hd
      have smx := sm1 _ ⟨m0, m1⟩
      obtain ⟨x0, x1⟩ := fm_bd (a := mixed * 16807 + (j : Int) + 1) (b := 65537) (by decide)
      have hlim0 : rs.length < lim := by unfold lim; omega
      refine ⟨_, E1 (rs ++ [((mixed * 16807 + (j : Int) + 1).fmod 65537).fmod 997]) ((mixed * 16807 + (j : Int) + 1).fmod 65537) (some (.int (0 + (j : Int)))) o5 o6 o7, gN_dv rfl, ?_, _, _, _, rfl, x0, x1, by rw [List.length_append, List.length_singleton]; omega⟩
      simp [b__law_draws_3, evB, evS, evE, evL, evO, evOs, evEs, evT, evTs, evI, evC, evP, evDd, evPs, evWs, evG, evGs, fSeq2, aft, fNext, fRet, fIf, fAsg, fAsgL, fAsgT, fAsgD, fPar, fWv, fWl, fW0, setWs, wiS, fLit, fVar, Pf.slotAt, varS, fBin, fNeg, negD, fCmp, fChain, fAnd, fOr, fNot, fBool, boolS, fTest, fIte, fAt, fAtD, fCut, fPart, fNoPart, fOs, fOs0, fFn, fVs, fVs0, fTup, fFresh, fDisp, fTupOf, fListOf, fIsi, fCall, fCallW, fVal, fSlotC, isSet, Pf.rs, Pf.rsS, Pf.rsV, rsAll, rsD, keyD, datS, datsS, setS_s, setS_dv, setS_ol, setS_dat, setS_none, setS_olst, setS_rlst, setS_fdic, setS_odic, gN, gT, gs0, gsC, lenIs, binD, addD, subD, mulD, fdivD, modD, cmpD, ordD, isD, isN, isiD, atD, fnD, intV, seqV, lstV, fApp, fAugD, fAugI, olS, odS, odH, inS, getElem_s, E1, smx, s3, hlim0]
  obtain ⟨en2, h2, rs2, mixed2, o4', rfl, _, _, hr2⟩ := hloop2
  refine ⟨rs2.take 500, by rw [List.length_take]; omega, ?_⟩
  refine fb_ret (en' := E1 rs2 mixed2 o4' o5 o6 o7) rfl ?_ rfl
  refine B_next (en1 := [some S, some (.dat (.int 500)), some (.olst []), none, none, none, none, none]) (by simp [evB, evS, evE, evL, evO, evOs, evEs, evT, evTs, evI, evC, evP, evDd, evPs, evWs, evG, evGs, fSeq2, aft, fNext, fRet, fIf, fAsg, fAsgL, fAsgT, fAsgD, fPar, fWv, fWl, fW0, setWs, wiS, fLit, fVar, Pf.slotAt, varS, fBin, fNeg, negD, fCmp, fChain, fAnd, fOr, fNot, fBool, boolS, fTest, fIte, fAt, fAtD, fCut, fPart, fNoPart, fOs, fOs0, fFn, fVs, fVs0, fTup, fFresh, fDisp, fTupOf, fListOf, fIsi, fCall, fCallW, fVal, fSlotC, isSet, Pf.rs, Pf.rsS, Pf.rsV, rsAll, rsD, keyD, datS, datsS, setS_s, setS_dv, setS_ol, setS_dat, setS_none, setS_olst, setS_rlst, setS_fdic, setS_odic, gN, gT, gs0, gsC, lenIs, binD, addD, subD, mulD, fdivD, modD, cmpD, ordD, isD, isN, isiD, atD, fnD, intV, seqV, lstV, fApp, fAugD, fAugI, olS, odS, odH, inS, getElem_s, List.replicate, S, lim]) ?_
  refine B_next (en1 := E1 [] 7 none none none none) (by simp [evB, evS, evE, evL, evO, evOs, evEs, evT, evTs, evI, evC, evP, evDd, evPs, evWs, evG, evGs, fSeq2, aft, fNext, fRet, fIf, fAsg, fAsgL, fAsgT, fAsgD, fPar, fWv, fWl, fW0, setWs, wiS, fLit, fVar, Pf.slotAt, varS, fBin, fNeg, negD, fCmp, fChain, fAnd, fOr, fNot, fBool, boolS, fTest, fIte, fAt, fAtD, fCut, fPart, fNoPart, fOs, fOs0, fFn, fVs, fVs0, fTup, fFresh, fDisp, fTupOf, fListOf, fIsi, fCall, fCallW, fVal, fSlotC, isSet, Pf.rs, Pf.rsS, Pf.rsV, rsAll, rsD, keyD, datS, datsS, setS_s, setS_dv, setS_ol, setS_dat, setS_none, setS_olst, setS_rlst, setS_fdic, setS_odic, gN, gT, gs0, gsC, lenIs, binD, addD, subD, mulD, fdivD, modD, cmpD, ordD, isD, isN, isiD, atD, fnD, intV, seqV, lstV, fApp, fAugD, fAugI, olS, odS, odH, inS, getElem_s, E1]) ?_
  refine B_next (en1 := E1 rs1 mixed1 o4 o5 o6 o7) ?_ ?_
  · rw [evS, evI, evG]
    unfold fFor
    have hr : -1000000 ≤ (ns.length : Int) ∧ (ns.length : Int) ≤ 1000000 := by omega
    simp [evB, evS, evE, evL, evO, evOs, evEs, evT, evTs, evI, evC, evP, evDd, evPs, evWs, evG, evGs, fSeq2, aft, fNext, fRet, fIf, fAsg, fAsgL, fAsgT, fAsgD, fPar, fWv, fWl, fW0, setWs, wiS, fLit, fVar, Pf.slotAt, varS, fBin, fNeg, negD, fCmp, fChain, fAnd, fOr, fNot, fBool, boolS, fTest, fIte, fAt, fAtD, fCut, fPart, fNoPart, fOs, fOs0, fFn, fVs, fVs0, fTup, fFresh, fDisp, fTupOf, fListOf, fIsi, fCall, fCallW, fVal, fSlotC, isSet, Pf.rs, Pf.rsS, Pf.rsV, rsAll, rsD, keyD, datS, datsS, setS_s, setS_dv, setS_ol, setS_dat, setS_none, setS_olst, setS_rlst, setS_fdic, setS_odic, gN, gT, gs0, gsC, lenIs, binD, addD, subD, mulD, fdivD, modD, cmpD, ordD, isD, isN, isiD, atD, fnD, intV, seqV, lstV, fApp, fAugD, fAugI, olS, odS, odH, inS, getElem_s, fRng1, int1, fLenR, rlS, E1, S, hr]
    exact h1
  refine B_next (en1 := E1 rs2 mixed2 o4' o5 o6 o7) ?_ (B_ret ?_)
  · rw [evS, evI, evG]
    unfold fFor
    simp [evB, evS, evE, evL, evO, evOs, evEs, evT, evTs, evI, evC, evP, evDd, evPs, evWs, evG, evGs, fSeq2, aft, fNext, fRet, fIf, fAsg, fAsgL, fAsgT, fAsgD, fPar, fWv, fWl, fW0, setWs, wiS, fLit, fVar, Pf.slotAt, varS, fBin, fNeg, negD, fCmp, fChain, fAnd, fOr, fNot, fBool, boolS, fTest, fIte, fAt, fAtD, fCut, fPart, fNoPart, fOs, fOs0, fFn, fVs, fVs0, fTup, fFresh, fDisp, fTupOf, fListOf, fIsi, fCall, fCallW, fVal, fSlotC, isSet, Pf.rs, Pf.rsS, Pf.rsV, rsAll, rsD, keyD, datS, datsS, setS_s, setS_dv, setS_ol, setS_dat, setS_none, setS_olst, setS_rlst, setS_fdic, setS_odic, gN, gT, gs0, gsC, lenIs, binD, addD, subD, mulD, fdivD, modD, cmpD, ordD, isD, isN, isiD, atD, fnD, intV, seqV, lstV, fApp, fAugD, fAugI, olS, odS, odH, inS, getElem_s, fRng1, int1, E1]
    exact h2
  · have hc : cutL (rs2.map PyData.int) none (some 500) = (rs2.map PyData.int).take 500 := cut_take _ 500
    simp [evB, evS, evE, evL, evO, evOs, evEs, evT, evTs, evI, evC, evP, evDd, evPs, evWs, evG, evGs, fSeq2, aft, fNext, fRet, fIf, fAsg, fAsgL, fAsgT, fAsgD, fPar, fWv, fWl, fW0, setWs, wiS, fLit, fVar, Pf.slotAt, varS, fBin, fNeg, negD, fCmp, fChain, fAnd, fOr, fNot, fBool, boolS, fTest, fIte, fAt, fAtD, fCut, fPart, fNoPart, fOs, fOs0, fFn, fVs, fVs0, fTup, fFresh, fDisp, fTupOf, fListOf, fIsi, fCall, fCallW, fVal, fSlotC, isSet, Pf.rs, Pf.rsS, Pf.rsV, rsAll, rsD, keyD, datS, datsS, setS_s, setS_dv, setS_ol, setS_dat, setS_none, setS_olst, setS_rlst, setS_fdic, setS_odic, gN, gT, gs0, gsC, lenIs, binD, addD, subD, mulD, fdivD, modD, cmpD, ordD, isD, isN, isiD, atD, fnD, intV, seqV, lstV, fApp, fAugD, fAugI, olS, odS, odH, inS, getElem_s, E1, cutD, hc]

theorem same_ok : ∀ (m n : Nat) (d : D), sg m d → ((Y (n + m + 1)).f 14).2 [.dat d, .dat d] = some (.bool true, [.dat d, .dat d])
  | m, n, .none, _ => by rw [f__law_same]; simp [fBody, b__law_same, evB, evS, evE, evL, evO, evOs, evEs, evT, evTs, evI, evC, evP, evDd, evPs, evWs, evG, evGs, fSeq2, aft, fNext, fRet, fIf, fAsg, fAsgL, fAsgT, fAsgD, fPar, fWv, fWl, fW0, setWs, wiS, fLit, fVar, Pf.slotAt, varS, fBin, fNeg, negD, fCmp, fChain, fAnd, fOr, fNot, fBool, boolS, fTest, fIte, fAt, fAtD, fCut, fPart, fNoPart, fOs, fOs0, fFn, fVs, fVs0, fTup, fFresh, fDisp, fTupOf, fListOf, fIsi, fCall, fCallW, fVal, fSlotC, isSet, Pf.rs, Pf.rsS, Pf.rsV, rsAll, rsD, keyD, datS, datsS, setS_s, setS_dv, setS_ol, setS_dat, setS_none, setS_olst, setS_rlst, setS_fdic, setS_odic, gN, gT, gs0, gsC, lenIs, binD, addD, subD, mulD, fdivD, modD, cmpD, ordD, isD, isN, isiD, atD, fnD, intV, seqV, lstV, fApp, fAugD, fAugI, olS, odS, odH, inS, getElem_s, endV, outs, ownB]
  | m, n, .bool b, _ => by rw [f__law_same]; simp [fBody, b__law_same, evB, evS, evE, evL, evO, evOs, evEs, evT, evTs, evI, evC, evP, evDd, evPs, evWs, evG, evGs, fSeq2, aft, fNext, fRet, fIf, fAsg, fAsgL, fAsgT, fAsgD, fPar, fWv, fWl, fW0, setWs, wiS, fLit, fVar, Pf.slotAt, varS, fBin, fNeg, negD, fCmp, fChain, fAnd, fOr, fNot, fBool, boolS, fTest, fIte, fAt, fAtD, fCut, fPart, fNoPart, fOs, fOs0, fFn, fVs, fVs0, fTup, fFresh, fDisp, fTupOf, fListOf, fIsi, fCall, fCallW, fVal, fSlotC, isSet, Pf.rs, Pf.rsS, Pf.rsV, rsAll, rsD, keyD, datS, datsS, setS_s, setS_dv, setS_ol, setS_dat, setS_none, setS_olst, setS_rlst, setS_fdic, setS_odic, gN, gT, gs0, gsC, lenIs, binD, addD, subD, mulD, fdivD, modD, cmpD, ordD, isD, isN, isiD, atD, fnD, intV, seqV, lstV, fApp, fAugD, fAugI, olS, odS, odH, inS, getElem_s, eqD_bool, endV, outs, ownB]
  | m, n, .int i, _ => by rw [f__law_same]; simp [fBody, b__law_same, evB, evS, evE, evL, evO, evOs, evEs, evT, evTs, evI, evC, evP, evDd, evPs, evWs, evG, evGs, fSeq2, aft, fNext, fRet, fIf, fAsg, fAsgL, fAsgT, fAsgD, fPar, fWv, fWl, fW0, setWs, wiS, fLit, fVar, Pf.slotAt, varS, fBin, fNeg, negD, fCmp, fChain, fAnd, fOr, fNot, fBool, boolS, fTest, fIte, fAt, fAtD, fCut, fPart, fNoPart, fOs, fOs0, fFn, fVs, fVs0, fTup, fFresh, fDisp, fTupOf, fListOf, fIsi, fCall, fCallW, fVal, fSlotC, isSet, Pf.rs, Pf.rsS, Pf.rsV, rsAll, rsD, keyD, datS, datsS, setS_s, setS_dv, setS_ol, setS_dat, setS_none, setS_olst, setS_rlst, setS_fdic, setS_odic, gN, gT, gs0, gsC, lenIs, binD, addD, subD, mulD, fdivD, modD, cmpD, ordD, isD, isN, isiD, atD, fnD, intV, seqV, lstV, fApp, fAugD, fAugI, olS, odS, odH, inS, getElem_s, eqD_bool, eqD_int, endV, outs, ownB]
  | m, n, .list _, h => by cases m <;> exact h.elim
  | m, n, .dict _, h => by cases m <;> exact h.elim
  | m, n, .str x, h => by
    have h' : shp (.str x) = true := by cases m <;> exact h
    rw [f__law_same]; simp [fBody, b__law_same, evB, evS, evE, evL, evO, evOs, evEs, evT, evTs, evI, evC, evP, evDd, evPs, evWs, evG, evGs, fSeq2, aft, fNext, fRet, fIf, fAsg, fAsgL, fAsgT, fAsgD, fPar, fWv, fWl, fW0, setWs, wiS, fLit, fVar, Pf.slotAt, varS, fBin, fNeg, negD, fCmp, fChain, fAnd, fOr, fNot, fBool, boolS, fTest, fIte, fAt, fAtD, fCut, fPart, fNoPart, fOs, fOs0, fFn, fVs, fVs0, fTup, fFresh, fDisp, fTupOf, fListOf, fIsi, fCall, fCallW, fVal, fSlotC, isSet, Pf.rs, Pf.rsS, Pf.rsV, rsAll, rsD, keyD, datS, datsS, setS_s, setS_dv, setS_ol, setS_dat, setS_none, setS_olst, setS_rlst, setS_fdic, setS_odic, gN, gT, gs0, gsC, lenIs, binD, addD, subD, mulD, fdivD, modD, cmpD, ordD, isD, isN, isiD, atD, fnD, intV, seqV, lstV, fApp, fAugD, fAugI, olS, odS, odH, inS, getElem_s, eqD_self_str h', endV, outs, ownB]
  | m + 1, n, .tuple ds, h => by
    obtain ⟨h1, h2⟩ := h
    have hb : (-1000000 : Int) ≤ (ds.length : Int) ∧ (ds.length : Int) ≤ 1000000 := by unfold lim at h1; omega
    have hl : (rngD 0 ds.length).length ≤ lim := by rw [rngD_len]; exact h1
    have hcomp := comp_map (vs := [2]) (bd := evG (.name 2)) (cond := evC (Y (n + m + 1)) c__law_same_1c)
      (elt := evE (Y (n + m + 1)) c__law_same_1e) (f := fun i : Nat => PyData.int (i : Int)) (g := fun i : Nat => PyData.int (i : Int)) (p := fun _ => false) (en := [some (.dat (.tuple ds)), some (.dat (.tuple ds)), none]) (List.range ds.length) fun x hx => by
        have hlt : x < ds.length := List.mem_range.mp hx
        have ha : atI ds (x : Int) = some ds[x] := atI_nat (List.getElem?_eq_getElem hlt)
        have ih := same_ok m n ds[x] (h2 _ (List.getElem_mem hlt))
        refine ⟨[some (.dat (.tuple ds)), some (.dat (.tuple ds)), some (.dat (.int x))], [some (.dat (.tuple ds)), some (.dat (.tuple ds)), some (.dat (.int x))], rfl, ?_, ?_⟩
        · simp [c__law_same_1c, evB, evS, evE, evL, evO, evOs, evEs, evT, evTs, evI, evC, evP, evDd, evPs, evWs, evG, evGs, fSeq2, aft, fNext, fRet, fIf, fAsg, fAsgL, fAsgT, fAsgD, fPar, fWv, fWl, fW0, setWs, wiS, fLit, fVar, Pf.slotAt, varS, fBin, fNeg, negD, fCmp, fChain, fAnd, fOr, fNot, fBool, boolS, fTest, fIte, fAt, fAtD, fCut, fPart, fNoPart, fOs, fOs0, fFn, fVs, fVs0, fTup, fFresh, fDisp, fTupOf, fListOf, fIsi, fCall, fCallW, fVal, fSlotC, isSet, Pf.rs, Pf.rsS, Pf.rsV, rsAll, rsD, keyD, datS, datsS, setS_s, setS_dv, setS_ol, setS_dat, setS_none, setS_olst, setS_rlst, setS_fdic, setS_odic, gN, gT, gs0, gsC, lenIs, binD, addD, subD, mulD, fdivD, modD, cmpD, ordD, isD, isN, isiD, atD, fnD, intV, seqV, lstV, fApp, fAugD, fAugI, olS, odS, odH, inS, getElem_s, np__law_same, ha, ih]
        · simp [wipeE]
    rw [← rngD_map] at hcomp
    have hcomp' : evL (Y (n + m + 1)) c__law_same_1 [some (.dat (.tuple ds)), some (.dat (.tuple ds)), none] = some ([], [some (.dat (.tuple ds)), some (.dat (.tuple ds)), none]) := by
      unfold c__law_same_1
      refine (comp_ev (ds := rngD 0 ds.length) (en1 := [some (.dat (.tuple ds)), some (.dat (.tuple ds)), none]) (en2 := [some (.dat (.tuple ds)), some (.dat (.tuple ds)), none]) (r := []) ?_ hl ?_).trans rfl
      · simp [c__law_same_1i, evB, evS, evE, evL, evO, evOs, evEs, evT, evTs, evI, evC, evP, evDd, evPs, evWs, evG, evGs, fSeq2, aft, fNext, fRet, fIf, fAsg, fAsgL, fAsgT, fAsgD, fPar, fWv, fWl, fW0, setWs, wiS, fLit, fVar, Pf.slotAt, varS, fBin, fNeg, negD, fCmp, fChain, fAnd, fOr, fNot, fBool, boolS, fTest, fIte, fAt, fAtD, fCut, fPart, fNoPart, fOs, fOs0, fFn, fVs, fVs0, fTup, fFresh, fDisp, fTupOf, fListOf, fIsi, fCall, fCallW, fVal, fSlotC, isSet, Pf.rs, Pf.rsS, Pf.rsV, rsAll, rsD, keyD, datS, datsS, setS_s, setS_dv, setS_ol, setS_dat, setS_none, setS_olst, setS_rlst, setS_fdic, setS_odic, gN, gT, gs0, gsC, lenIs, binD, addD, subD, mulD, fdivD, modD, cmpD, ordD, isD, isN, isiD, atD, fnD, intV, seqV, lstV, fApp, fAugD, fAugI, olS, odS, odH, inS, getElem_s, fRng1, int1, hb]
      · refine hcomp.trans ?_
        simp
    rw [show n + (m + 1) + 1 = (n + m + 1) + 1 by omega, f__law_same]
    refine fb_ret (en' := [some (.dat (.tuple ds)), some (.dat (.tuple ds)), none]) rfl ?_ rfl
    unfold b__law_same
    refine B_ret ?_
    simp [evB, evS, evE, evL, evO, evOs, evEs, evT, evTs, evI, evC, evP, evDd, evPs, evWs, evG, evGs, fSeq2, aft, fNext, fRet, fIf, fAsg, fAsgL, fAsgT, fAsgD, fPar, fWv, fWl, fW0, setWs, wiS, fLit, fVar, Pf.slotAt, varS, fBin, fNeg, negD, fCmp, fChain, fAnd, fOr, fNot, fBool, boolS, fTest, fIte, fAt, fAtD, fCut, fPart, fNoPart, fOs, fOs0, fFn, fVs, fVs0, fTup, fFresh, fDisp, fTupOf, fListOf, fIsi, fCall, fCallW, fVal, fSlotC, isSet, Pf.rs, Pf.rsS, Pf.rsV, rsAll, rsD, keyD, datS, datsS, setS_s, setS_dv, setS_ol, setS_dat, setS_none, setS_olst, setS_rlst, setS_fdic, setS_odic, gN, gT, gs0, gsC, lenIs, binD, addD, subD, mulD, fdivD, modD, cmpD, ordD, isD, isN, isiD, atD, fnD, intV, seqV, lstV, fApp, fAugD, fAugI, olS, odS, odH, inS, getElem_s, hcomp', eqD_nil, eqD_int, lim]
theorem same_lv {m : Nat} (k : Nat) (hk : k + 1 ≤ m) {d : D} (h : sg k d) : ((Y m).f 14).2 [.dat d, .dat d] = some (.bool true, [.dat d, .dat d]) :=
  lvl (P := fun m => ((Y m).f 14).2 [.dat d, .dat d] = some (.bool true, [.dat d, .dat d])) (k + 1) (fun n => same_ok k n d h) m hk

/-- data that may be compared -/
def shD (n : Nat) (d : D) : Prop := PyData.canLay0 d = true ∧ PyData.depth d ≤ n
theorem shD_all {n : Nat} : ∀ {ds : List D}, (∀ d ∈ ds, shD n d) → PyData.canLayAll0 ds = true ∧ PyData.depthAll ds ≤ n
  | [], _ => ⟨rfl, Nat.zero_le _⟩
  | d :: ds, h => by
    obtain ⟨h1, h2⟩ := h d List.mem_cons_self
    obtain ⟨h3, h4⟩ := shD_all fun x hx => h x (List.mem_cons_of_mem _ hx)
    refine ⟨?_, ?_⟩
    · unfold PyData.canLayAll0
      rw [h1, h3]; rfl
    · unfold PyData.depthAll
      exact Nat.max_le.mpr ⟨h2, h4⟩
theorem shD_list {n : Nat} {ds : List D} (h : ∀ d ∈ ds, shD n d) : shD (n + 1) (.list ds) := by
  obtain ⟨h1, h2⟩ := shD_all h
  refine ⟨by unfold PyData.canLay0; exact h1, by unfold PyData.depth; exact Nat.succ_le_succ h2⟩
theorem shD_tuple {n : Nat} {ds : List D} (h : ∀ d ∈ ds, shD n d) : shD (n + 1) (.tuple ds) := by
  obtain ⟨h1, h2⟩ := shD_all h
  refine ⟨by unfold PyData.canLay0; exact h1, by unfold PyData.depth; exact Nat.succ_le_succ h2⟩
theorem shD_int (n : Nat) (i : Int) : shD n (.int i) := ⟨by unfold PyData.canLay0; rfl, by unfold PyData.depth; exact Nat.zero_le _⟩
theorem shD_none (n : Nat) : shD n .none := ⟨by unfold PyData.canLay0; rfl, by unfold PyData.depth; exact Nat.zero_le _⟩
theorem shD_cp (n : Nat) (q : Rat) : shD (n + 1) (cp q) := shD_tuple fun d hd => by
  rcases List.mem_cons.mp hd with rfl | hd
  · exact shD_int _ _
  · rcases List.mem_cons.mp hd with rfl | hd
    · exact shD_int _ _
    · cases hd
theorem shD.shp {n : Nat} {d : D} (h : shD n d) (hn : n ≤ 64) : shp d = true := by
  show (PyData.canLay0 d && decide (PyData.depth d ≤ 64)) = true
  rw [h.1, decide_eq_true (Nat.le_trans h.2 hn)]
  rfl
theorem eqD_ne_nil {n : Nat} {x : D} {xs : List D} (h : ∀ d ∈ x :: xs, shD n d) (hn : n ≤ 63) : eqD (.list (x :: xs)) (.list []) = some false := by
  show (if _ then _ else _) = _
  rw [if_pos ⟨(shD_list h).shp (by omega), rfl⟩]
  rfl
theorem add_ii (i j : Int) : addD (.int i) (.int j) = some (.int (i + j)) := rfl
theorem isNn : isN .none = true := rfl
theorem isNi (i : Int) : isN (.int i) = false := rfl
theorem isNb (b : Bool) : isN (.bool b) = false := rfl
theorem isNt (l : List D) : isN (.tuple l) = false := rfl
theorem isNl (l : List D) : isN (.list l) = false := rfl

/-- a slot that may be written anew -/
def Fr (o : Option SV) : Prop := ∀ sv l, setS 0 sv (o :: l) = some (some sv :: l)
theorem Fr_none : Fr none := fun _ _ => rfl
theorem Fr_dat (d : D) : Fr (some (.dat d)) := fun _ _ => rfl
theorem Fr_olst (d : List D) : Fr (some (.olst d)) := fun _ _ => rfl
theorem Fr_kdic (d : List (Key × D)) : Fr (some (.kdic d)) := fun _ _ => rfl


theorem next_lv {lvm : Nat} (hm0 : 1 ≤ lvm) (ns : List Int) {k many : Int} (hk : 0 ≤ k) (hm : 0 < many) : ∃ r, 0 ≤ r ∧ r < many ∧ ((Y lvm).f 11).2 [.odic true (W ns k), .dat (.int many)] = some (.int r, [.odic true (W ns (k + 1)), .dat (.int many)]) :=
  lvl (P := fun lvm => ∃ r, 0 ≤ r ∧ r < many ∧ ((Y lvm).f 11).2 [.odic true (W ns k), .dat (.int many)] = some (.int r, [.odic true (W ns (k + 1)), .dat (.int many)])) 1 (fun n => next_ok n ns hk hm) lvm hm0
theorem pick_lv {lvm : Nat} (hm0 : 2 ≤ lvm) (ns : List Int) {k : Int} (hk : 0 ≤ k) {ds : List D} (hd : ds ≠ []) : ∃ d, d ∈ ds ∧ ((Y lvm).f 12).2 [.odic true (W ns k), .dat (.list ds)] = some (d, [.odic true (W ns (k + 1)), .dat (.list ds)]) :=
  lvl (P := fun lvm => ∃ d, d ∈ ds ∧ ((Y lvm).f 12).2 [.odic true (W ns k), .dat (.list ds)] = some (d, [.odic true (W ns (k + 1)), .dat (.list ds)])) 2 (fun n => pick_ok n ns hk hd) lvm hm0
theorem draws_lv {lvm : Nat} (hm0 : 1 ≤ lvm) (ns : List Int) (hl : ns.length ≤ 63) : ∃ rs : List Int, rs.length ≤ 500 ∧ ((Y lvm).f 10).2 [.rlst (ns.map PyData.int), .dat (.int 500)] = some (.list (rs.map PyData.int), [.rlst (ns.map PyData.int), .dat (.int 500)]) :=
  lvl (P := fun lvm => ∃ rs : List Int, rs.length ≤ 500 ∧ ((Y lvm).f 10).2 [.rlst (ns.map PyData.int), .dat (.int 500)] = some (.list (rs.map PyData.int), [.rlst (ns.map PyData.int), .dat (.int 500)])) 1 (fun n => draws_ok n ns hl) lvm hm0
end K26

set_option maxHeartbeats 4000000
namespace K26
open PySem L2 Pf
/-! ### sets by size, then by rank -/
def il (l : List Int) : List D := l.map .int
def tl (l : List Int) : D := .tuple (il l)
def prD (s : List Int) : D := .tuple [.int (s.length : Int), tl s]
theorem eqv_il : ∀ s t : List Int, PyData.eqvAll (il s) (il t) = decide (s = t)
  | [], [] => rfl
  | [], _ :: _ => rfl
  | _ :: _, [] => rfl
  | x :: s, y :: t => by
    show (PyData.eqv (.int x) (.int y) && PyData.eqvAll (il s) (il t)) = _
    rw [eqv_il s t]
    show (x == y && _) = _
    by_cases h : x = y
    · subst h
      by_cases h2 : s = t <;> simp [h2]
    · simp [h]
theorem eqv_tl (s t : List Int) : PyData.eqv (tl s) (tl t) = decide (s = t) := by
  show PyData.eqv (.tuple _) (.tuple _) = _
  simp only [PyData.eqv]
  exact eqv_il s t
def ltS (s t : List Int) : Bool := decide (s.length < t.length ∨ (s.length = t.length ∧ s < t))
theorem alike_tl (s t : List Int) : PySem.W.alike (tl s) (tl t) = true := by
  show PySem.W.alike (.tuple _) (.tuple _) = true
  simp only [PySem.W.alike]
  exact PySem.W.alike_ints s t
theorem alike_pr (s t : List Int) : PySem.W.alike (prD s) (prD t) = true := by
  show PySem.W.alike (.tuple _) (.tuple _) = true
  simp only [PySem.W.alike, PySem.W.alikeAll, alike_tl, Bool.and_true]
theorem prLt (s t : List Int) : PySem.W.dataLt (prD s) (prD t) = ltS s t := by
  show PySem.W.dataLt (.tuple [.int _, tl s]) (.tuple [.int _, tl t]) = _
  rw [PySem.W.dataLt_pair (by simp only [PySem.W.alike]) (alike_tl s t), PySem.W.dataLt_int, eqv_tl]
  have e : PySem.W.dataLt (tl s) (tl t) = decide (s < t) := PySem.W.dataLt_ints s t
  rw [e]
  unfold ltS
  show (if (((s.length : Int) == (t.length : Int)) = true) then _ else _) = _
  by_cases h : s.length = t.length
  · rw [if_pos (by simp [h])]
    by_cases h2 : s = t
    · subst h2
      simp [List.lt_irrefl]
    · simp [h2, h]
  · rw [if_neg (by simp; omega)]
    refine decide_eq_decide.mpr ?_
    constructor
    · intro q; exact .inl (by omega)
    · rintro (q | ⟨q, _⟩)
      · omega
      · exact absurd q h
theorem ltS_asymm {s t : List Int} (h : ltS s t = true) : ltS t s = false := by
  unfold ltS at *
  have h := of_decide_eq_true h
  refine decide_eq_false ?_
  rintro (q | ⟨q, q2⟩)
  · rcases h with z | ⟨z, _⟩ <;> omega
  · rcases h with z | ⟨z, z2⟩
    · omega
    · exact List.lt_irrefl s (List.lt_trans z2 q2)
theorem ltS_anti {s t : List Int} (h : ltS s t = false) (h2 : ltS t s = false) : s = t := by
  unfold ltS at *
  have h := of_decide_eq_false h
  have h2 := of_decide_eq_false h2
  have hl : s.length = t.length := by
    rcases Nat.lt_trichotomy s.length t.length with z | z | z
    · exact absurd (.inl z) h
    · exact z
    · exact absurd (.inl z) h2
  exact List.le_antisymm (fun z => h2 (.inr ⟨hl.symm, z⟩)) (fun z => h (.inr ⟨hl, z⟩))
theorem perm_sorted {α : Type} {le : α → α → Bool} : ∀ {l1 l2 : List α}, l1.Perm l2 → (∀ x ∈ l1, ∀ y ∈ l1, le x y = true → le y x = true → x = y) → l1.Pairwise (fun a b => le a b = true) → l2.Pairwise (fun a b => le a b = true) → l1 = l2
  | [], l2, h, _, _, _ => (List.nil_perm.mp h).symm
  | x :: l1, [], h, _, _, _ => absurd h.length_eq (by simp)
  | x :: l1, y :: l2, h, anti, p1, p2 => by
    obtain ⟨a1, a2⟩ := List.pairwise_cons.mp p1
    obtain ⟨b1, b2⟩ := List.pairwise_cons.mp p2
    have e : x = y := by
      rcases List.mem_cons.mp (h.mem_iff.mp (List.mem_cons_self (a := x) (l := l1))) with z | z
      · exact z
      · have hy := h.mem_iff.mpr (List.mem_cons_self (a := y) (l := l2))
        rcases List.mem_cons.mp hy with w | w
        · exact w.symm
        · exact anti x List.mem_cons_self y hy (a1 y w) (b1 x z)
    subst e
    congr 1
    exact perm_sorted (List.Perm.cons_inv h) (fun a ha b hb => anti a (List.mem_cons_of_mem _ ha) b (List.mem_cons_of_mem _ hb)) a2 b2
theorem srt_pr {A B : List (List Int)} (h : A.Perm B) (hB : B.Pairwise fun s t => ltS s t = true) : srtD (A.map prD) = B.map prD := by
  unfold srtD
  have tot := PySem.W.sortLe_total (PyProof.Rows.listOrd PyProof.Rows.itemOrd) false fun b : D => PySem.W.keyToks (id b)
  have hp : ((A.map prD).mergeSort (PySem.W.dataLe false id)).Perm (B.map prD) := (List.mergeSort_perm _ _).trans (h.map prD)
  have e : ∀ s t : List Int, PySem.W.dataLe false id (prD s) (prD t) = !(ltS t s) := fun s t => by
    show (!PySem.W.dataLt (prD t) (prD s)) = _
    rw [prLt]
  refine perm_sorted hp (fun x hx y hy h1 h2 => ?_) (PySem.W.sort_pairwise tot _) ?_
  · obtain ⟨s, _, rfl⟩ := List.mem_map.mp (hp.mem_iff.mp hx)
    obtain ⟨t, _, rfl⟩ := List.mem_map.mp (hp.mem_iff.mp hy)
    have h1 : PySem.W.dataLe false id (prD s) (prD t) = true := h1
    have h2 : PySem.W.dataLe false id (prD t) (prD s) = true := h2
    rw [e] at h1 h2
    rw [ltS_anti (s := s) (t := t) (by simpa using h2) (by simpa using h1)]
  · rw [List.pairwise_map]
    refine hB.imp fun {s t} q => ?_
    show PySem.W.dataLe false id (prD s) (prD t) = true
    rw [e, ltS_asymm q]
    rfl
/-- all sets of k of them, in order -/
def ch : Nat → List Int → List (List Int)
  | 0, _ => [[]]
  | _ + 1, [] => []
  | k + 1, x :: l => (ch k l).map (x :: ·) ++ ch (k + 1) l
theorem ch_mem : ∀ (k : Nat) (l s : List Int), s ∈ ch k l ↔ s.Sublist l ∧ s.length = k
  | 0, l, s => by
    unfold ch
    rw [List.mem_singleton]
    constructor
    · rintro rfl; exact ⟨List.nil_sublist _, rfl⟩
    · rintro ⟨_, h⟩; exact List.length_eq_zero_iff.mp h
  | k + 1, [], s => by
    unfold ch
    constructor
    · intro h; cases h
    · rintro ⟨h, h2⟩
      rw [List.sublist_nil.mp h] at h2
      cases h2
  | k + 1, x :: l, s => by
    unfold ch
    rw [List.mem_append, List.mem_map, ch_mem (k + 1) l s]
    constructor
    · rintro (⟨t, h, rfl⟩ | ⟨h1, h2⟩)
      · obtain ⟨h1, h2⟩ := (ch_mem k l t).mp h
        exact ⟨h1.cons_cons x, by rw [List.length_cons, h2]⟩
      · exact ⟨h1.cons x, h2⟩
    · rintro ⟨h1, h2⟩
      cases h1 with
      | cons _ h => exact .inr ⟨h, h2⟩
      | @cons_cons t _ _ h =>
        exact .inl ⟨t, (ch_mem k l t).mpr ⟨h, by simpa using h2⟩, rfl⟩
theorem ch_lt : ∀ (k : Nat) (l : List Int), l.Pairwise (· < ·) → (ch k l).Pairwise (· < ·)
  | 0, l, _ => by
    unfold ch
    exact List.pairwise_singleton _ _
  | k + 1, [], _ => List.Pairwise.nil
  | k + 1, x :: l, h => by
    obtain ⟨h1, h2⟩ := List.pairwise_cons.mp h
    unfold ch
    refine List.pairwise_append.mpr ⟨?_, ch_lt (k + 1) l h2, fun s hs t ht => ?_⟩
    · rw [List.pairwise_map]
      exact (ch_lt k l h2).imp fun {s t} q => List.cons_lt_cons_iff.mpr (.inr ⟨rfl, q⟩)
    · obtain ⟨s', _, rfl⟩ := List.mem_map.mp hs
      obtain ⟨q1, q2⟩ := (ch_mem (k + 1) l t).mp ht
      cases t with
      | nil => cases q2
      | cons y t => exact List.cons_lt_cons_iff.mpr (.inl (h1 y (q1.subset List.mem_cons_self)))
def alls (l : List Int) : List (List Int) := (List.range (l.length + 1)).flatMap fun k => ch k l
theorem alls_mem (l s : List Int) : s ∈ alls l ↔ s.Sublist l := by
  unfold alls
  rw [List.mem_flatMap]
  constructor
  · rintro ⟨k, _, h⟩
    exact ((ch_mem k l s).mp h).1
  · intro h
    exact ⟨s.length, List.mem_range.mpr (by have := h.length_le; omega), (ch_mem _ l s).mpr ⟨h, rfl⟩⟩
theorem alls_lt {l : List Int} (h : l.Pairwise (· < ·)) : (alls l).Pairwise fun s t => ltS s t = true := by
  unfold alls
  have key : ∀ n, ((List.range n).flatMap fun k => ch k l).Pairwise fun s t => ltS s t = true := by
    intro n
    induction n with
    | zero => exact List.Pairwise.nil
    | succ n ih =>
      rw [List.range_succ, List.flatMap_append]
      refine List.pairwise_append.mpr ⟨ih, ?_, fun s hs t ht => ?_⟩
      · have e : [n].flatMap (fun k => ch k l) = ch n l := by simp
        rw [e]
        refine ((ch_lt n l h).and (List.pairwise_of_forall_mem_list (r := fun s t => s.length = t.length) fun a ha b hb => by
          rw [((ch_mem n l a).mp ha).2, ((ch_mem n l b).mp hb).2])).imp fun {s t} q => ?_
        unfold ltS
        exact decide_eq_true (.inr ⟨q.2, q.1⟩)
      · obtain ⟨k, hk, hs⟩ := List.mem_flatMap.mp hs
        obtain ⟨k', hk', ht⟩ := List.mem_flatMap.mp ht
        rw [List.mem_singleton.mp hk'] at ht
        have a1 := ((ch_mem k l s).mp hs).2
        have a2 := ((ch_mem n l t).mp ht).2
        have a3 := List.mem_range.mp hk
        unfold ltS
        exact decide_eq_true (.inl (by omega))
  exact key _
/-- the law's own way: each thing joined to all found before -/
def pwF (F : List (List Int)) (l : List Int) : List (List Int) := l.foldl (fun f x => f ++ f.map fun s => s ++ [x]) F
theorem pwF_mem : ∀ (l : List Int) (F : List (List Int)) (s : List Int), s ∈ pwF F l ↔ ∃ a ∈ F, ∃ b, b.Sublist l ∧ s = a ++ b
  | [], F, s => by
    show s ∈ F ↔ _
    constructor
    · intro h; exact ⟨s, h, [], List.nil_sublist _, (List.append_nil s).symm⟩
    · rintro ⟨a, ha, b, hb, rfl⟩
      rw [List.sublist_nil.mp hb, List.append_nil]
      exact ha
  | x :: l, F, s => by
    show s ∈ pwF (F ++ F.map fun s => s ++ [x]) l ↔ _
    rw [pwF_mem l]
    constructor
    · rintro ⟨a, ha, b, hb, rfl⟩
      rcases List.mem_append.mp ha with z | z
      · exact ⟨a, z, b, hb.cons x, rfl⟩
      · obtain ⟨a', h', rfl⟩ := List.mem_map.mp z
        exact ⟨a', h', x :: b, hb.cons_cons x, by rw [List.append_assoc]; rfl⟩
    · rintro ⟨a, ha, b, hb, rfl⟩
      cases hb with
      | cons _ h => exact ⟨a, List.mem_append_left _ ha, b, h, rfl⟩
      | @cons_cons b' _ _ h => exact ⟨a ++ [x], List.mem_append_right _ (List.mem_map.mpr ⟨a, ha, rfl⟩), b', h, by rw [List.append_assoc]; rfl⟩
theorem pwF_nodup : ∀ (l : List Int) (F : List (List Int)), l.Nodup → F.Nodup → (∀ a ∈ F, ∀ y ∈ a, y ∉ l) → (pwF F l).Nodup
  | [], F, _, h, _ => h
  | x :: l, F, hl, hF, hd => by
    obtain ⟨l1, l2⟩ := List.nodup_cons.mp hl
    refine pwF_nodup l _ l2 (List.nodup_append.mpr ⟨hF, ?_, fun a ha b hb e => ?_⟩) fun a ha y hy => ?_
    · exact List.Pairwise.map _ (fun a b q e => q (List.append_cancel_right e)) hF
    · obtain ⟨b', _, rfl⟩ := List.mem_map.mp hb
      subst e
      exact hd _ ha x (by simp) List.mem_cons_self
    · rcases List.mem_append.mp ha with z | z
      · intro q; exact hd a z y hy (List.mem_cons_of_mem _ q)
      · obtain ⟨a', h', rfl⟩ := List.mem_map.mp z
        rcases List.mem_append.mp hy with w | w
        · intro q; exact hd a' h' y w (List.mem_cons_of_mem _ q)
        · rw [List.mem_singleton.mp w]; exact l1
theorem pw_perm {l : List Int} (h : l.Pairwise (· < ·)) : (pwF [[]] l).Perm (alls l) := by
  have hn : l.Nodup := h.imp fun {a b} q e => by omega
  have h1 := pwF_nodup l [[]] hn (List.pairwise_singleton _ _) (fun a ha y hy => by rw [List.mem_singleton.mp ha] at hy; cases hy)
  have h2 : (alls l).Nodup := (alls_lt h).imp fun {a b} q e => by
    subst e
    have := ltS_asymm q
    rw [q] at this
    cases this
  refine (List.perm_ext_iff_of_nodup h1 h2).mpr fun s => ?_
  rw [pwF_mem, alls_mem]
  constructor
  · rintro ⟨a, ha, b, hb, rfl⟩
    rw [List.mem_singleton.mp ha]
    exact hb
  · intro hb
    exact ⟨[], List.mem_singleton.mpr rfl, s, hb, rfl⟩
theorem srt_sets {l : List Int} (h : l.Pairwise (· < ·)) : srtD ((pwF [[]] l).map prD) = (alls l).map prD := srt_pr (pw_perm h) (alls_lt h)


end K26

set_option maxHeartbeats 4000000
namespace K26
open PySem L2 Pf
/-! ### lists of whole numbers -/
theorem shD_il {l : List Int} : ∀ d ∈ il l, shD 0 d := fun d hd => by
  obtain ⟨i, _, rfl⟩ := List.mem_map.mp hd
  exact shD_int 0 i
theorem shD_tl (l : List Int) : shD 1 (tl l) := shD_tuple shD_il
theorem inD_tl (c : Int) (l : List Int) : inD (.int c) (tl l) = some (decide (c ∈ l)) := by
  show (if _ then _ else _) = _
  rw [if_pos ⟨(shD_int 0 c).shp (by decide), (shD_tl l).shp (by decide)⟩]
  congr 1
  induction l with
  | nil => rfl
  | cons x l ih =>
    have ih : (il l).any (fun z => PyData.eqv z (.int c)) = decide (c ∈ l) := ih
    show (PyData.eqv (.int x) (.int c) || (il l).any _) = _
    rw [ih]
    have e : PyData.eqv (.int x) (.int c) = decide (c = x) := by
      show (x == c) = _
      by_cases h : c = x
      · subst h; simp
      · simp [h]; exact fun z => h z.symm
    rw [e]
    by_cases h1 : c = x
    · simp [h1]
    · by_cases h2 : c ∈ l <;> simp [h1, h2]
theorem eqD_il (a b : List Int) : eqD (.list (il a)) (.list (il b)) = some (decide (a = b)) := by
  show (if _ then _ else _) = _
  rw [if_pos ⟨(shD_list shD_il).shp (by decide), (shD_list shD_il).shp (by decide)⟩]
  congr 1
  show PyData.eqv (.list _) (.list _) = _
  simp only [PyData.eqv]
  exact eqv_il a b
def isS (s : Str) : D → Bool
  | .str a => a == s
  | _ => false
theorem eqD_S {d : D} {s : Str} (h : shp d = true) (hs : shp (.str s) = true) : eqD d (.str s) = some (isS s d) := by
  show (if _ then _ else _) = _
  rw [if_pos ⟨h, hs⟩]
  cases d <;> rfl
theorem ch_len : ∀ (k : Nat) (l : List Int), (ch k l).length ≤ 2 ^ l.length
  | 0, l => by
    unfold ch
    exact Nat.one_le_two_pow
  | k + 1, [] => by unfold ch; exact Nat.zero_le _
  | k + 1, x :: l => by
    unfold ch
    rw [List.length_append, List.length_map, List.length_cons, Nat.pow_succ]
    have := ch_len k l
    have := ch_len (k + 1) l
    omega
theorem ch_len5 (k : Nat) {l : List Int} (h : l.length ≤ 5) : (ch k l).length ≤ 32 := Nat.le_trans (ch_len k l) (Nat.pow_le_pow_right (n := 2) (by decide) h)
theorem fl_len (l : List Int) (h : l.length ≤ 5) : ∀ i, ((List.range i).flatMap fun k => ch k l).length ≤ 32 * i
  | 0 => Nat.zero_le _
  | i + 1 => by
    rw [List.range_succ, List.flatMap_append, List.length_append]
    have := fl_len l h i
    have e : [i].flatMap (fun k => ch k l) = ch i l := by simp
    have := ch_len5 i h
    rw [e]
    omega
theorem set_of_ok (n : Nat) {l : List Int} (h : l.length < 60) : ((Y (n + 1)).f 4).2 [.dat (tl l)] = some (tl (usort l), [.dat (tl l)]) := by
  have hi := intsOf_map l
  rw [f_set_of]
  unfold tl il
  simp [fBody, b_set_of, evB, evS, evE, evL, evO, evOs, evEs, evT, evTs, evI, evC, evP, evDd, evPs, evWs, evG, evGs, fSeq2, aft, fNext, fRet, fIf, fAsg, fAsgL, fAsgT, fAsgD, fPar, fWv, fWl, fW0, setWs, wiS, fLit, fVar, Pf.slotAt, varS, fBin, fNeg, negD, fCmp, fChain, fAnd, fOr, fNot, fBool, boolS, fTest, fIte, fAt, fAtD, fCut, fPart, fNoPart, fOs, fOs0, fFn, fVs, fVs0, fTup, fFresh, fDisp, fTupOf, fListOf, fIsi, fCall, fCallW, fVal, fSlotC, isSet, Pf.rs, Pf.rsS, Pf.rsV, rsAll, rsD, keyD, datS, datsS, setS_s, setS_dv, setS_ol, setS_dat, setS_none, setS_olst, setS_rlst, setS_fdic, setS_odic, gN, gT, gs0, gsC, lenIs, binD, addD, subD, mulD, fdivD, modD, cmpD, ordD, isD, isN, isiD, at_l, at_t, fn_lenL, fn_lenT, fn_max2, fn_abs, fn_int, fn_intb, intV, seq_l, seq_t, lstV, fApp, fAugD, fAugI, olS, odS, odH, inS, getElem_s, fSortSet, tupV, hi, h, endV, outs, ownB]
theorem add_tl {s t : List Int} (h : s.length + t.length ≤ 50) : addD (tl s) (tl t) = some (tl (s ++ t)) := by
  show (if _ then some (PyData.tuple _) else none) = _
  rw [if_pos (by unfold il lim; rw [List.length_map, List.length_map]; omega)]
  unfold tl il
  rw [List.map_append]
theorem chosen_lv : ∀ (k : Nat) {lvm : Nat} (hm0 : k + 1 ≤ lvm) {l : List Int} (hl : l.length ≤ 5), ((Y lvm).f 5).2 [.dat (tl l), .dat (.int (k : Int))] = some (.list ((ch k l).map tl), [.dat (tl l), .dat (.int (k : Int))])
  | 0, lvm, hm0, l, hl => by
    obtain ⟨m, rfl⟩ : ∃ m, lvm = m + 1 := ⟨lvm - 1, by omega⟩
    have e0 := eqD_int 0 0
    have l0 : (0 : Nat) ≤ lim := by decide
    have l1 : (1 : Nat) ≤ lim := by decide
    rw [f_chosen]
    unfold tl
    generalize il l = xs
    unfold ch
    refine fb_ret (en' := [some (.dat (.tuple xs)), some (.dat (.int 0)), none, none, none]) rfl (B_ret ?_) rfl
    simp [evB, evS, evE, evL, evO, evOs, evEs, evT, evTs, evI, evC, evP, evDd, evPs, evWs, evG, evGs, fSeq2, aft, fNext, fRet, fIf, fAsg, fAsgL, fAsgT, fAsgD, fPar, fWv, fWl, fW0, setWs, wiS, fLit, fVar, Pf.slotAt, varS, fBin, fNeg, negD, fCmp, fChain, fAnd, fOr, fNot, fBool, boolS, fTest, fIte, fAt, fAtD, fCut, fPart, fNoPart, fOs, fOs0, fFn, fVs, fVs0, fTup, fFresh, fDisp, fTupOf, fListOf, fIsi, fCall, fCallW, fVal, fSlotC, isSet, Pf.rs, Pf.rsS, Pf.rsV, rsAll, rsD, keyD, datS, datsS, setS_s, setS_dv, setS_ol, setS_dat, setS_none, setS_olst, setS_rlst, setS_fdic, setS_odic, gN, gT, gs0, gsC, lenIs, binD, addD, subD, mulD, fdivD, modD, cmpD, ordD, isD, isN, isiD, at_l, at_t, fn_lenL, fn_lenT, fn_max2, fn_abs, fn_int, fn_intb, intV, seq_l, seq_t, lstV, fApp, fAugD, fAugI, olS, odS, odH, inS, getElem_s, List.replicate, e0, l0, l1, il]
  | k + 1, lvm, hm0, l, hl => by
    obtain ⟨m, rfl⟩ : ∃ m, lvm = m + 1 := ⟨lvm - 1, by omega⟩
    have e0 := eqD_int ((k + 1 : Nat) : Int) 0
    rw [decide_eq_false (by omega)] at e0
    rw [f_chosen]
    let E0 : List (List Int) → Option D → En := fun acc o => [some (.dat (tl l)), some (.dat (.int ((k + 1 : Nat) : Int))), some (.olst (acc.map tl)), o.map SV.dat, none]
    have hE : ∀ acc o, E0 acc o = [some (.dat (tl l)), some (.dat (.int ((k + 1 : Nat) : Int))), some (.olst (acc.map tl)), o.map SV.dat, none] := fun _ _ => rfl
    obtain ⟨en', h1, acc, o, h2, rfl⟩ := loop_inv (bd := evG (.name 3)) (body := evB (Y m) b_chosen_1) (P := fun i en => ∃ acc o, acc ++ ch (k + 1) (l.drop i) = ch (k + 1) l ∧ en = E0 acc o) (rngD 0 l.length) 0 (E0 [] none) ⟨[], none, rfl, rfl⟩ fun j d en hd hP => by
      obtain ⟨acc, o, hacc, rfl⟩ := hP
      obtain ⟨hj, rfl⟩ := rngD_at hd
      rw [Nat.zero_add] at hacc ⊢
      rw [Int.zero_add]
      have hdl : (l.drop (j + 1)).length ≤ 5 := by rw [List.length_drop]; omega
      have ih := chosen_lv k (lvm := m) (by omega) hdl
      have hal : acc.length ≤ 32 := by
        have := ch_len5 (k + 1) hl
        rw [← hacc, List.length_append] at this
        omega
      have hel := ch_len5 k hdl
      have hcut : cutD (tl l) (some ((j : Int) + 1)) none = some (tl (l.drop (j + 1))) := by
        show some (PyData.tuple _) = _
        rw [show (j : Int) + 1 = ((j + 1 : Nat) : Int) by omega, cut_drop]
        unfold tl il
        rw [List.map_drop]
      have hat : atI (il l) (j : Int) = some (.int l[j]) := atI_nat (by unfold il; rw [List.getElem?_map, List.getElem?_eq_getElem hj]; rfl)
      have hk1 : ((k + 1 : Nat) : Int) - 1 = (k : Int) := by omega
      have hdrop : l.drop j = l[j] :: l.drop (j + 1) := List.drop_eq_getElem_cons hj
      have hcomp := comp_map (vs := [4]) (bd := evG (.name 4)) (cond := evC (Y m) c_chosen_1c) (elt := evE (Y m) c_chosen_1e) (f := tl) (g := fun s => tl (l[j] :: s)) (p := fun _ => true) (en := E0 acc (some (.int (j : Int)))) (ch k (l.drop (j + 1))) fun s hs => by
        have hsl := (((ch_mem k _ s).mp hs).1).length_le
        have ha := add_tl (s := [l[j]]) (t := s) (by simp; omega)
        have l1 : (1 : Nat) ≤ lim := by decide
        have e1 : tl [l[j]] = .tuple [.int l[j]] := rfl
        rw [e1] at ha
        refine ⟨(E0 acc (some (.int (j : Int)))).set 4 (some (.dat (tl s))), (E0 acc (some (.int (j : Int)))).set 4 (some (.dat (tl s))), rfl, rfl, ?_⟩
        rw [if_pos rfl]
        refine ⟨(E0 acc (some (.int (j : Int)))).set 4 (some (.dat (tl s))), ?_, rfl⟩
        rw [hE]
        show evE (Y m) c_chosen_1e _ = some (.dat (tl ([l[j]] ++ s)), _)
        generalize tl ([l[j]] ++ s) = R at *
        generalize tl s = S at *
        generalize acc.map tl = A at *
        unfold tl
        generalize il l = xs at *
        have ab : binD .add (.tuple [.int l[j]]) S = addD (.tuple [.int l[j]]) S := rfl
        simp [c_chosen_1e, evE, evO, evOs, evEs, fBin, fVal, fTup, fVs, fVs0, fAt, fSlotC, isSet, Pf.rs, Pf.rsS, Pf.rsV, at_t, datsS, datS, hat, l1, ab, ha]
      rw [List.filter_eq_self.mpr fun _ _ => rfl] at hcomp
      have hc : evL (Y m) c_chosen_1 (E0 acc (some (.int (j : Int)))) = some ((ch k (l.drop (j + 1))).map (fun s => tl (l[j] :: s)), E0 acc (some (.int (j : Int)))) := by
        unfold c_chosen_1
        refine (comp_ev (ds := (ch k (l.drop (j + 1))).map tl) (en1 := E0 acc (some (.int (j : Int)))) (en2 := E0 acc (some (.int (j : Int)))) (r := (ch k (l.drop (j + 1))).map (fun s => tl (l[j] :: s))) ?_ ?_ ?_).trans rfl
        · unfold c_chosen_1i
          rw [evI]; unfold fSeq
          generalize (ch k (l.drop (j + 1))).map tl = gs at *
          generalize tl (l.drop (j + 1)) = S at *
          generalize tl l = T0 at *
          generalize hk2 : ((k + 1 : Nat) : Int) = q at *
          simp [evB, evS, evE, evL, evO, evOs, evEs, evT, evTs, evI, evC, evP, evDd, evPs, evWs, evG, evGs, fSeq2, aft, fNext, fRet, fIf, fAsg, fAsgL, fAsgT, fAsgD, fPar, fWv, fWl, fW0, setWs, wiS, fLit, fVar, Pf.slotAt, varS, fBin, fNeg, negD, fCmp, fChain, fAnd, fOr, fNot, fBool, boolS, fTest, fIte, fAt, fAtD, fCut, fPart, fNoPart, fOs, fOs0, fFn, fVs, fVs0, fTup, fFresh, fDisp, fTupOf, fListOf, fIsi, fCall, fCallW, fVal, fSlotC, isSet, Pf.rs, Pf.rsS, Pf.rsV, rsAll, rsD, keyD, datS, datsS, setS_s, setS_dv, setS_ol, setS_dat, setS_none, setS_olst, setS_rlst, setS_fdic, setS_odic, gN, gT, gs0, gsC, lenIs, binD, addD, subD, mulD, fdivD, modD, cmpD, ordD, isD, isN, isiD, at_l, at_t, fn_lenL, fn_lenT, fn_max2, fn_abs, fn_int, fn_intb, intV, seq_l, seq_t, lstV, fApp, fAugD, fAugI, olS, odS, odH, inS, getElem_s, hE, np_chosen, ih, hcut, hk2, hk1]
        · rw [List.length_map]; unfold lim; omega
        · exact hcomp
      refine ⟨_, E0 (acc ++ (ch k (l.drop (j + 1))).map (l[j] :: ·)) (some (.int (j : Int))), gN_dv rfl, ?_, acc ++ (ch k (l.drop (j + 1))).map (l[j] :: ·), some (.int (j : Int)), ?_, rfl⟩
      · refine B_next (en1 := E0 (acc ++ (ch k (l.drop (j + 1))).map (l[j] :: ·)) (some (.int (j : Int)))) ?_ rfl
        show evS (Y m) _ (E0 acc (some (.int (j : Int)))) = _
        rw [evS]
        unfold fExt
        rw [fcomp hc]
        have hb : (acc.map tl).length + ((ch k (l.drop (j + 1))).map (fun s => tl (l[j] :: s))).length ≤ lim := by rw [List.length_map, List.length_map]; unfold lim; omega
        have hm2 : (acc ++ (ch k (l.drop (j + 1))).map (l[j] :: ·)).map tl = acc.map tl ++ (ch k (l.drop (j + 1))).map (fun s => tl (l[j] :: s)) := by
          rw [List.map_append, List.map_map]; rfl
        rw [hE, hE, hm2]
        generalize acc.map tl = A at *
        generalize (ch k (l.drop (j + 1))).map (fun s => tl (l[j] :: s)) = Bs at *
        simp [olS, datS, lstV, hb]
      · rw [hdrop] at hacc
        unfold ch at hacc
        rw [List.append_assoc, hacc]
        conv => rhs; unfold ch
    rw [rngD_len, Nat.zero_add, List.drop_length] at h2
    have h2 : acc = ch (k + 1) l := by
      have e : ch (k + 1) [] = [] := by unfold ch; rfl
      rw [e, List.append_nil] at h2
      exact h2
    subst h2
    have l0 : (0 : Nat) ≤ lim := by decide
    refine fb_ret (en' := [some (.dat (tl l)), some (.dat (.int ((k + 1 : Nat) : Int))), some (.dat (.list ((ch (k + 1) l).map tl))), o.map SV.dat, none]) rfl (B_next (en1 := [some (.dat (tl l)), some (.dat (.int ((k + 1 : Nat) : Int))), none, none, none]) ?_ (B_next (en1 := E0 [] none) ?_ (B_next (for_next (ds := rngD 0 l.length) (en1 := E0 [] none) ?_ h1) (B_ret ?_)))) rfl
    · generalize ((k + 1 : Nat) : Int) = q at *
      simp [evB, evS, evE, evL, evO, evOs, evEs, evT, evTs, evI, evC, evP, evDd, evPs, evWs, evG, evGs, fSeq2, aft, fNext, fRet, fIf, fAsg, fAsgL, fAsgT, fAsgD, fPar, fWv, fWl, fW0, setWs, wiS, fLit, fVar, Pf.slotAt, varS, fBin, fNeg, negD, fCmp, fChain, fAnd, fOr, fNot, fBool, boolS, fTest, fIte, fAt, fAtD, fCut, fPart, fNoPart, fOs, fOs0, fFn, fVs, fVs0, fTup, fFresh, fDisp, fTupOf, fListOf, fIsi, fCall, fCallW, fVal, fSlotC, isSet, Pf.rs, Pf.rsS, Pf.rsV, rsAll, rsD, keyD, datS, datsS, setS_s, setS_dv, setS_ol, setS_dat, setS_none, setS_olst, setS_rlst, setS_fdic, setS_odic, gN, gT, gs0, gsC, lenIs, binD, addD, subD, mulD, fdivD, modD, cmpD, ordD, isD, isN, isiD, at_l, at_t, fn_lenL, fn_lenT, fn_max2, fn_abs, fn_int, fn_intb, intV, seq_l, seq_t, lstV, fApp, fAugD, fAugI, olS, odS, odH, inS, getElem_s, List.replicate, e0]
    · simp [evB, evS, evE, evL, evO, evOs, evEs, evT, evTs, evI, evC, evP, evDd, evPs, evWs, evG, evGs, fSeq2, aft, fNext, fRet, fIf, fAsg, fAsgL, fAsgT, fAsgD, fPar, fWv, fWl, fW0, setWs, wiS, fLit, fVar, Pf.slotAt, varS, fBin, fNeg, negD, fCmp, fChain, fAnd, fOr, fNot, fBool, boolS, fTest, fIte, fAt, fAtD, fCut, fPart, fNoPart, fOs, fOs0, fFn, fVs, fVs0, fTup, fFresh, fDisp, fTupOf, fListOf, fIsi, fCall, fCallW, fVal, fSlotC, isSet, Pf.rs, Pf.rsS, Pf.rsV, rsAll, rsD, keyD, datS, datsS, setS_s, setS_dv, setS_ol, setS_dat, setS_none, setS_olst, setS_rlst, setS_fdic, setS_odic, gN, gT, gs0, gsC, lenIs, binD, addD, subD, mulD, fdivD, modD, cmpD, ordD, isD, isN, isiD, at_l, at_t, fn_lenL, fn_lenT, fn_max2, fn_abs, fn_int, fn_intb, intV, seq_l, seq_t, lstV, fApp, fAugD, fAugI, olS, odS, odH, inS, getElem_s, hE, l0]
    · exact rng1_ev (os := [.val (.dat (.int (l.length : Int)))]) (m := (l.length : Int)) (by unfold tl il at *; simp [evB, evS, evE, evL, evO, evOs, evEs, evT, evTs, evI, evC, evP, evDd, evPs, evWs, evG, evGs, fSeq2, aft, fNext, fRet, fIf, fAsg, fAsgL, fAsgT, fAsgD, fPar, fWv, fWl, fW0, setWs, wiS, fLit, fVar, Pf.slotAt, varS, fBin, fNeg, negD, fCmp, fChain, fAnd, fOr, fNot, fBool, boolS, fTest, fIte, fAt, fAtD, fCut, fPart, fNoPart, fOs, fOs0, fFn, fVs, fVs0, fTup, fFresh, fDisp, fTupOf, fListOf, fIsi, fCall, fCallW, fVal, fSlotC, isSet, Pf.rs, Pf.rsS, Pf.rsV, rsAll, rsD, keyD, datS, datsS, setS_s, setS_dv, setS_ol, setS_dat, setS_none, setS_olst, setS_rlst, setS_fdic, setS_odic, gN, gT, gs0, gsC, lenIs, binD, addD, subD, mulD, fdivD, modD, cmpD, ordD, isD, isN, isiD, at_l, at_t, fn_lenL, fn_lenT, fn_max2, fn_abs, fn_int, fn_intb, intV, seq_l, seq_t, lstV, fApp, fAugD, fAugI, olS, odS, odH, inS, getElem_s, hE]) (by simp [evB, evS, evE, evL, evO, evOs, evEs, evT, evTs, evI, evC, evP, evDd, evPs, evWs, evG, evGs, fSeq2, aft, fNext, fRet, fIf, fAsg, fAsgL, fAsgT, fAsgD, fPar, fWv, fWl, fW0, setWs, wiS, fLit, fVar, Pf.slotAt, varS, fBin, fNeg, negD, fCmp, fChain, fAnd, fOr, fNot, fBool, boolS, fTest, fIte, fAt, fAtD, fCut, fPart, fNoPart, fOs, fOs0, fFn, fVs, fVs0, fTup, fFresh, fDisp, fTupOf, fListOf, fIsi, fCall, fCallW, fVal, fSlotC, isSet, Pf.rs, Pf.rsS, Pf.rsV, rsAll, rsD, keyD, datS, datsS, setS_s, setS_dv, setS_ol, setS_dat, setS_none, setS_olst, setS_rlst, setS_fdic, setS_odic, gN, gT, gs0, gsC, lenIs, binD, addD, subD, mulD, fdivD, modD, cmpD, ordD, isD, isN, isiD, at_l, at_t, fn_lenL, fn_lenT, fn_max2, fn_abs, fn_int, fn_intb, intV, seq_l, seq_t, lstV, fApp, fAugD, fAugI, olS, odS, odH, inS, getElem_s]) rfl (by omega)
    · simp [evB, evS, evE, evL, evO, evOs, evEs, evT, evTs, evI, evC, evP, evDd, evPs, evWs, evG, evGs, fSeq2, aft, fNext, fRet, fIf, fAsg, fAsgL, fAsgT, fAsgD, fPar, fWv, fWl, fW0, setWs, wiS, fLit, fVar, Pf.slotAt, varS, fBin, fNeg, negD, fCmp, fChain, fAnd, fOr, fNot, fBool, boolS, fTest, fIte, fAt, fAtD, fCut, fPart, fNoPart, fOs, fOs0, fFn, fVs, fVs0, fTup, fFresh, fDisp, fTupOf, fListOf, fIsi, fCall, fCallW, fVal, fSlotC, isSet, Pf.rs, Pf.rsS, Pf.rsV, rsAll, rsD, keyD, datS, datsS, setS_s, setS_dv, setS_ol, setS_dat, setS_none, setS_olst, setS_rlst, setS_fdic, setS_odic, gN, gT, gs0, gsC, lenIs, binD, addD, subD, mulD, fdivD, modD, cmpD, ordD, isD, isN, isiD, at_l, at_t, fn_lenL, fn_lenT, fn_max2, fn_abs, fn_int, fn_intb, intV, seq_l, seq_t, lstV, fApp, fAugD, fAugI, olS, odS, odH, inS, getElem_s, hE]
theorem all_sets_lv {lvm : Nat} (hm0 : 8 ≤ lvm) {l : List Int} (hl : l.length ≤ 5) : ((Y lvm).f 6).2 [.dat (tl l)] = some (.list ((alls l).map tl), [.dat (tl l)]) := by
  obtain ⟨m, rfl⟩ : ∃ m, lvm = m + 1 := ⟨lvm - 1, by omega⟩
  rw [f_all_sets]
  have l0 : (0 : Nat) ≤ lim := by decide
  let E0 : List (List Int) → Option D → En := fun acc o => [some (.dat (tl l)), some (.olst (acc.map tl)), o.map SV.dat]
  have hE : ∀ acc o, E0 acc o = [some (.dat (tl l)), some (.olst (acc.map tl)), o.map SV.dat] := fun _ _ => rfl
  obtain ⟨en', h1, o, rfl⟩ := loop_inv (bd := evG (.name 2)) (body := evB (Y m) b_all_sets_1) (P := fun i en => ∃ o, en = E0 ((List.range i).flatMap fun k => ch k l) o) (rngD 0 (l.length + 1)) 0 (E0 [] none) ⟨none, rfl⟩ fun j d en hd hP => by
    obtain ⟨o, rfl⟩ := hP
    obtain ⟨hj, rfl⟩ := rngD_at hd
    rw [Nat.zero_add] at ⊢
    rw [Int.zero_add]
    have h1 := fl_len l hl j
    have h2 := ch_len5 j hl
    have hc := chosen_lv j (lvm := m) (by omega) hl
    refine ⟨_, E0 ((List.range (j + 1)).flatMap fun k => ch k l) (some (.int (j : Int))), gN_dv rfl, ?_, _, rfl⟩
    have e : (List.range (j + 1)).flatMap (fun k => ch k l) = (List.range j).flatMap (fun k => ch k l) ++ ch j l := by
      rw [List.range_succ, List.flatMap_append]; simp
    rw [e]
    generalize (List.range j).flatMap (fun k => ch k l) = acc at *
    have hb : (acc.map tl).length + ((ch j l).map tl).length ≤ lim := by rw [List.length_map, List.length_map]; unfold lim; omega
    show evB (Y m) b_all_sets_1 (E0 acc (some (.int (j : Int)))) = _
    unfold b_all_sets_1
    refine B_next (en1 := E0 (acc ++ ch j l) (some (.int (j : Int)))) ?_ rfl
    rw [evS]
    unfold fExt
    rw [hE, hE, List.map_append]
    generalize acc.map tl = A at *
    generalize (ch j l).map tl = Bs at *
    generalize tl l = T0 at *
    simp [evB, evS, evE, evL, evO, evOs, evEs, evT, evTs, evI, evC, evP, evDd, evPs, evWs, evG, evGs, fSeq2, aft, fNext, fRet, fIf, fAsg, fAsgL, fAsgT, fAsgD, fPar, fWv, fWl, fW0, setWs, wiS, fLit, fVar, Pf.slotAt, varS, fBin, fNeg, negD, fCmp, fChain, fAnd, fOr, fNot, fBool, boolS, fTest, fIte, fAt, fAtD, fCut, fPart, fNoPart, fOs, fOs0, fFn, fVs, fVs0, fTup, fFresh, fDisp, fTupOf, fListOf, fIsi, fCall, fCallW, fVal, fSlotC, isSet, Pf.rs, Pf.rsS, Pf.rsV, rsAll, rsD, keyD, datS, datsS, setS_s, setS_dv, setS_ol, setS_dat, setS_none, setS_olst, setS_rlst, setS_fdic, setS_odic, gN, gT, gs0, gsC, lenIs, binD, addD, subD, mulD, fdivD, modD, cmpD, ordD, isD, isN, isiD, at_l, at_t, fn_lenL, fn_lenT, fn_max2, fn_abs, fn_int, fn_intb, intV, seq_l, seq_t, lstV, fApp, fAugD, fAugI, olS, odS, odH, inS, getElem_s, np_chosen, hc, hb, lstV]
  rw [rngD_len, Nat.zero_add] at h1
  refine fb_ret (en' := [some (.dat (tl l)), some (.dat (.list ((alls l).map tl))), o.map SV.dat]) rfl (B_next (en1 := E0 [] none) ?_ (B_next (for_next (ds := rngD 0 (l.length + 1)) (en1 := E0 [] none) ?_ h1) (B_ret ?_))) rfl
  · simp [evB, evS, evE, evL, evO, evOs, evEs, evT, evTs, evI, evC, evP, evDd, evPs, evWs, evG, evGs, fSeq2, aft, fNext, fRet, fIf, fAsg, fAsgL, fAsgT, fAsgD, fPar, fWv, fWl, fW0, setWs, wiS, fLit, fVar, Pf.slotAt, varS, fBin, fNeg, negD, fCmp, fChain, fAnd, fOr, fNot, fBool, boolS, fTest, fIte, fAt, fAtD, fCut, fPart, fNoPart, fOs, fOs0, fFn, fVs, fVs0, fTup, fFresh, fDisp, fTupOf, fListOf, fIsi, fCall, fCallW, fVal, fSlotC, isSet, Pf.rs, Pf.rsS, Pf.rsV, rsAll, rsD, keyD, datS, datsS, setS_s, setS_dv, setS_ol, setS_dat, setS_none, setS_olst, setS_rlst, setS_fdic, setS_odic, gN, gT, gs0, gsC, lenIs, binD, addD, subD, mulD, fdivD, modD, cmpD, ordD, isD, isN, isiD, at_l, at_t, fn_lenL, fn_lenT, fn_max2, fn_abs, fn_int, fn_intb, intV, seq_l, seq_t, lstV, fApp, fAugD, fAugI, olS, odS, odH, inS, getElem_s, hE, List.replicate, l0]
  · exact rng1_ev (os := [.val (.dat (.int ((l.length : Int) + 1)))]) (m := (l.length : Int) + 1) (by unfold tl il at *; simp [evB, evS, evE, evL, evO, evOs, evEs, evT, evTs, evI, evC, evP, evDd, evPs, evWs, evG, evGs, fSeq2, aft, fNext, fRet, fIf, fAsg, fAsgL, fAsgT, fAsgD, fPar, fWv, fWl, fW0, setWs, wiS, fLit, fVar, Pf.slotAt, varS, fBin, fNeg, negD, fCmp, fChain, fAnd, fOr, fNot, fBool, boolS, fTest, fIte, fAt, fAtD, fCut, fPart, fNoPart, fOs, fOs0, fFn, fVs, fVs0, fTup, fFresh, fDisp, fTupOf, fListOf, fIsi, fCall, fCallW, fVal, fSlotC, isSet, Pf.rs, Pf.rsS, Pf.rsV, rsAll, rsD, keyD, datS, datsS, setS_s, setS_dv, setS_ol, setS_dat, setS_none, setS_olst, setS_rlst, setS_fdic, setS_odic, gN, gT, gs0, gsC, lenIs, binD, addD, subD, mulD, fdivD, modD, cmpD, ordD, isD, isN, isiD, at_l, at_t, fn_lenL, fn_lenT, fn_max2, fn_abs, fn_int, fn_intb, intV, seq_l, seq_t, lstV, fApp, fAugD, fAugI, olS, odS, odH, inS, getElem_s, hE]) (by simp [evB, evS, evE, evL, evO, evOs, evEs, evT, evTs, evI, evC, evP, evDd, evPs, evWs, evG, evGs, fSeq2, aft, fNext, fRet, fIf, fAsg, fAsgL, fAsgT, fAsgD, fPar, fWv, fWl, fW0, setWs, wiS, fLit, fVar, Pf.slotAt, varS, fBin, fNeg, negD, fCmp, fChain, fAnd, fOr, fNot, fBool, boolS, fTest, fIte, fAt, fAtD, fCut, fPart, fNoPart, fOs, fOs0, fFn, fVs, fVs0, fTup, fFresh, fDisp, fTupOf, fListOf, fIsi, fCall, fCallW, fVal, fSlotC, isSet, Pf.rs, Pf.rsS, Pf.rsV, rsAll, rsD, keyD, datS, datsS, setS_s, setS_dv, setS_ol, setS_dat, setS_none, setS_olst, setS_rlst, setS_fdic, setS_odic, gN, gT, gs0, gsC, lenIs, binD, addD, subD, mulD, fdivD, modD, cmpD, ordD, isD, isN, isiD, at_l, at_t, fn_lenL, fn_lenT, fn_max2, fn_abs, fn_int, fn_intb, intV, seq_l, seq_t, lstV, fApp, fAugD, fAugI, olS, odS, odH, inS, getElem_s]) (by omega) (by omega)
  · have e : (List.range (l.length + 1)).flatMap (fun k => ch k l) = alls l := rfl
    rw [e]
    generalize alls l = A
    simp [evB, evS, evE, evL, evO, evOs, evEs, evT, evTs, evI, evC, evP, evDd, evPs, evWs, evG, evGs, fSeq2, aft, fNext, fRet, fIf, fAsg, fAsgL, fAsgT, fAsgD, fPar, fWv, fWl, fW0, setWs, wiS, fLit, fVar, Pf.slotAt, varS, fBin, fNeg, negD, fCmp, fChain, fAnd, fOr, fNot, fBool, boolS, fTest, fIte, fAt, fAtD, fCut, fPart, fNoPart, fOs, fOs0, fFn, fVs, fVs0, fTup, fFresh, fDisp, fTupOf, fListOf, fIsi, fCall, fCallW, fVal, fSlotC, isSet, Pf.rs, Pf.rsS, Pf.rsV, rsAll, rsD, keyD, datS, datsS, setS_s, setS_dv, setS_ol, setS_dat, setS_none, setS_olst, setS_rlst, setS_fdic, setS_odic, gN, gT, gs0, gsC, lenIs, binD, addD, subD, mulD, fdivD, modD, cmpD, ordD, isD, isN, isiD, at_l, at_t, fn_lenL, fn_lenT, fn_max2, fn_abs, fn_int, fn_intb, intV, seq_l, seq_t, lstV, fApp, fAugD, fAugI, olS, odS, odH, inS, getElem_s, hE]
theorem pwF_snoc (l : List Int) (x : Int) : pwF [[]] (l ++ [x]) = pwF [[]] l ++ (pwF [[]] l).map fun s => s ++ [x] := by
  unfold pwF
  rw [List.foldl_append]
  rfl
theorem pwF_len : ∀ (i : Nat) (l : List Int), l.length = i → (pwF [[]] l).length = 2 ^ i := by
  intro i
  induction i with
  | zero =>
    intro l h
    obtain rfl := List.length_eq_zero_iff.mp h
    rfl
  | succ i ih =>
    intro l h
    have hne : l ≠ [] := fun e => by rw [e] at h; cases h
    have e := List.dropLast_concat_getLast hne
    rw [← e, pwF_snoc, List.length_append, List.length_map, ih l.dropLast (by rw [List.length_dropLast]; omega), Nat.pow_succ]
    omega
theorem pwF_el {l s : List Int} (h : s ∈ pwF [[]] l) : s.length ≤ l.length := by
  obtain ⟨a, ha, b, hb, rfl⟩ := (pwF_mem l [[]] s).mp h
  rw [List.mem_singleton.mp ha]
  exact hb.length_le
theorem shD_pr (s : List Int) : shD 2 (prD s) := shD_tuple fun d hd => by
  rcases List.mem_cons.mp hd with rfl | hd
  · exact shD_int _ _
  · rw [List.mem_singleton.mp hd]
    exact shD_tl s
theorem alt_pr (A : List (List Int)) : altB (A.map prD) = true := by
  unfold altB
  rw [Bool.and_eq_true, Bool.and_eq_true]
  refine ⟨⟨List.all_eq_true.mpr fun x hx => List.all_eq_true.mpr fun y hy => ?_, ?_⟩, List.all_eq_true.mpr fun x hx => ?_⟩
  · obtain ⟨s, _, rfl⟩ := List.mem_map.mp hx
    obtain ⟨t, _, rfl⟩ := List.mem_map.mp hy
    exact alike_pr s t
  · rw [Bool.or_eq_true]
    refine .inl (List.all_eq_true.mpr fun x hx => ?_)
    obtain ⟨s, _, rfl⟩ := List.mem_map.mp hx
    rfl
  · obtain ⟨s, _, rfl⟩ := List.mem_map.mp hx
    rw [Bool.and_eq_true]
    exact ⟨(shD_pr s).shp (by decide), decide_eq_true (Nat.le_trans (shD_pr s).2 (by decide))⟩
theorem add_ll {xs ys : List D} (h : xs.length + ys.length ≤ lim) : addD (.list xs) (.list ys) = some (.list (xs ++ ys)) := by
  show (if _ then some (PyData.list _) else none) = _
  rw [if_pos h]
theorem law_sets_lv {lvm : Nat} (hm0 : 4 ≤ lvm) {l : List Int} (hl : l.length ≤ 5) (ho : l.Pairwise (· < ·)) : ((Y lvm).f 16).2 [.dat (.list (il l))] = some (.list ((alls l).map tl), [.dat (.list (il l))]) := by
  obtain ⟨m, rfl⟩ : ∃ m, lvm = m + 1 := ⟨lvm - 1, by omega⟩
  rw [f__law_sets]
  have l0 : (0 : Nat) ≤ lim := by decide
  have l1 : (1 : Nat) ≤ lim := by decide
  let E0 : List (List Int) → Option D → En := fun acc o => [some (.dat (.list (il l))), some (.dat (.list (acc.map tl))), o.map SV.dat, none, none]
  have hE : ∀ acc o, E0 acc o = [some (.dat (.list (il l))), some (.dat (.list (acc.map tl))), o.map SV.dat, none, none] := fun _ _ => rfl
  have p5 : ∀ i, i ≤ 5 → 2 ^ i ≤ 32 := fun i h => Nat.pow_le_pow_right (n := 2) (by decide) h
  obtain ⟨en', h1, o, rfl⟩ := loop_inv (bd := evG (.name 2)) (body := evB (Y m) b__law_sets_1) (P := fun i en => ∃ o, en = E0 (pwF [[]] (l.take i)) o) (il l) 0 (E0 [[]] none) ⟨none, rfl⟩ fun j d en hd hP => by
    obtain ⟨o, rfl⟩ := hP
    rw [Nat.zero_add]
    unfold il at hd
    rw [List.getElem?_map] at hd
    obtain ⟨x, hx, rfl⟩ := Option.map_eq_some_iff.mp hd
    obtain ⟨hj, hx⟩ := List.getElem?_eq_some_iff.mp hx
    have htk : (l.take j).length = j := by rw [List.length_take]; omega
    have hpl := pwF_len j _ htk
    have hp5 := p5 j (by omega)
    have hel : ∀ s ∈ pwF [[]] (l.take j), s.length ≤ 5 := fun s hs => by have := pwF_el hs; omega
    have hsn : l.take (j + 1) = l.take j ++ [x] := by rw [List.take_succ_eq_append_getElem hj, hx]
    refine ⟨_, E0 (pwF [[]] (l.take (j + 1))) (some (.int x)), gN_dv rfl, ?_, _, rfl⟩
    rw [hsn, pwF_snoc]
    generalize pwF [[]] (l.take j) = F at *
    show evB (Y m) b__law_sets_1 (E0 F (some (.int x))) = _
    have hcomp := comp_map (vs := [4]) (bd := evG (.name 4)) (cond := evC (Y m) c__law_sets_1c) (elt := evE (Y m) c__law_sets_1e) (f := tl) (g := fun s => tl (s ++ [x])) (p := fun _ => true) (en := E0 F (some (.int x))) F fun s hs => by
      have ha := add_tl (s := s) (t := [x]) (by have := hel s hs; simp; omega)
      have e1 : tl [x] = .tuple [.int x] := rfl
      rw [e1] at ha
      refine ⟨(E0 F (some (.int x))).set 4 (some (.dat (tl s))), (E0 F (some (.int x))).set 4 (some (.dat (tl s))), rfl, rfl, ?_⟩
      rw [if_pos rfl]
      refine ⟨(E0 F (some (.int x))).set 4 (some (.dat (tl s))), ?_, rfl⟩
      rw [hE]
      generalize tl (s ++ [x]) = R at *
      generalize tl s = S at *
      generalize F.map tl = A at *
      have ab : binD .add S (.tuple [.int x]) = addD S (.tuple [.int x]) := rfl
      simp [c__law_sets_1e, evE, evO, evOs, evEs, fBin, fVal, fTup, fVs, fVs0, fVar, Pf.slotAt, varS, fSlotC, isSet, Pf.rs, Pf.rsS, Pf.rsV, datsS, datS, l1, ab, ha]
    rw [List.filter_eq_self.mpr fun _ _ => rfl] at hcomp
    have hc : evL (Y m) c__law_sets_1 (E0 F (some (.int x))) = some (F.map (fun s => tl (s ++ [x])), E0 F (some (.int x))) := by
      unfold c__law_sets_1
      refine (comp_ev (ds := F.map tl) (en1 := E0 F (some (.int x))) (en2 := E0 F (some (.int x))) (r := F.map (fun s => tl (s ++ [x]))) ?_ ?_ ?_).trans rfl
      · unfold c__law_sets_1i
        rw [evI, hE]; unfold fSeq
        generalize F.map tl = gs at *
        simp [evB, evS, evE, evL, evO, evOs, evEs, evT, evTs, evI, evC, evP, evDd, evPs, evWs, evG, evGs, fSeq2, aft, fNext, fRet, fIf, fAsg, fAsgL, fAsgT, fAsgD, fPar, fWv, fWl, fW0, setWs, wiS, fLit, fVar, Pf.slotAt, varS, fBin, fNeg, negD, fCmp, fChain, fAnd, fOr, fNot, fBool, boolS, fTest, fIte, fAt, fAtD, fCut, fPart, fNoPart, fOs, fOs0, fFn, fVs, fVs0, fTup, fFresh, fDisp, fTupOf, fListOf, fIsi, fCall, fCallW, fVal, fSlotC, isSet, Pf.rs, Pf.rsS, Pf.rsV, rsAll, rsD, keyD, datS, datsS, setS_s, setS_dv, setS_ol, setS_dat, setS_none, setS_olst, setS_rlst, setS_fdic, setS_odic, gN, gT, gs0, gsC, lenIs, binD, addD, subD, mulD, fdivD, modD, cmpD, ordD, isD, isN, isiD, at_l, at_t, fn_lenL, fn_lenT, fn_max2, fn_abs, fn_int, fn_intb, intV, seq_l, seq_t, lstV, fApp, fAugD, fAugI, olS, odS, odH, inS, getElem_s]
      · rw [List.length_map]; unfold lim; omega
      · exact hcomp
    have ha := add_ll (xs := F.map tl) (ys := F.map (fun s => tl (s ++ [x]))) (by rw [List.length_map, List.length_map]; unfold lim; omega)
    have hm2 : (F ++ F.map fun s => s ++ [x]).map tl = F.map tl ++ F.map (fun s => tl (s ++ [x])) := by
      rw [List.map_append, List.map_map]; rfl
    refine B_next (en1 := E0 (F ++ F.map fun s => s ++ [x]) (some (.int x))) ?_ rfl
    rw [hE] at hc ⊢
    rw [hE, hm2]
    generalize F.map tl = A at *
    generalize F.map (fun s => tl (s ++ [x])) = Bs at *
    simp only [Option.map_some] at hc ⊢
    have ab : ∀ a b, binD .add a b = addD a b := fun _ _ => rfl
    simp [evS, fAsg, evE, evO, evL, fBin, fVal, fFresh, fSlotC, isSet, Pf.rs, Pf.rsS, Pf.rsV, hc, ab, ha, setS_s, setS_dat]
  have hil : (il l).length = l.length := List.length_map _
  rw [hil, Nat.zero_add, List.take_length] at h1
  have hpl := pwF_len l.length l rfl
  have hp5 := p5 l.length hl
  have hso := srt_sets ho
  have hal := alt_pr (pwF [[]] l)
  have hlen : (alls l).length ≤ 192 := by
    have := fl_len l hl (l.length + 1)
    unfold alls
    omega
  generalize pwF [[]] l = F at *
  have hcomp := comp_map (vs := [4]) (bd := evG (.name 4)) (cond := evC (Y m) c__law_sets_3c) (elt := evE (Y m) c__law_sets_3e) (f := tl) (g := prD) (p := fun _ => true) (en := E0 F o) F fun s hs => by
    have l2 : (2 : Nat) ≤ lim := by decide
    refine ⟨(E0 F o).set 4 (some (.dat (tl s))), (E0 F o).set 4 (some (.dat (tl s))), rfl, rfl, ?_⟩
    rw [if_pos rfl]
    refine ⟨(E0 F o).set 4 (some (.dat (tl s))), ?_, rfl⟩
    rw [hE]
    have hln : fnD .len [tl s] = some (.int (s.length : Int)) := by
      show some (PyData.int _) = _
      unfold il; rw [List.length_map]
    unfold prD
    generalize tl s = S at *
    generalize F.map tl = A at *
    simp [c__law_sets_3e, evB, evS, evE, evL, evO, evOs, evEs, evT, evTs, evI, evC, evP, evDd, evPs, evWs, evG, evGs, fSeq2, aft, fNext, fRet, fIf, fAsg, fAsgL, fAsgT, fAsgD, fPar, fWv, fWl, fW0, setWs, wiS, fLit, fVar, Pf.slotAt, varS, fBin, fNeg, negD, fCmp, fChain, fAnd, fOr, fNot, fBool, boolS, fTest, fIte, fAt, fAtD, fCut, fPart, fNoPart, fOs, fOs0, fFn, fVs, fVs0, fTup, fFresh, fDisp, fTupOf, fListOf, fIsi, fCall, fCallW, fVal, fSlotC, isSet, Pf.rs, Pf.rsS, Pf.rsV, rsAll, rsD, keyD, datS, datsS, setS_s, setS_dv, setS_ol, setS_dat, setS_none, setS_olst, setS_rlst, setS_fdic, setS_odic, gN, gT, gs0, gsC, lenIs, binD, addD, subD, mulD, fdivD, modD, cmpD, ordD, isD, isN, isiD, at_l, at_t, fn_lenL, fn_lenT, fn_max2, fn_abs, fn_int, fn_intb, intV, seq_l, seq_t, lstV, fApp, fAugD, fAugI, olS, odS, odH, inS, getElem_s, hln, l2]
  rw [List.filter_eq_self.mpr fun _ _ => rfl] at hcomp
  have hc : evL (Y m) c__law_sets_3 (E0 F o) = some (F.map prD, E0 F o) := by
    unfold c__law_sets_3
    refine (comp_ev (ds := F.map tl) (en1 := E0 F o) (en2 := E0 F o) (r := F.map prD) ?_ ?_ ?_).trans rfl
    · unfold c__law_sets_3i
      rw [evI, hE]; unfold fSeq
      generalize F.map tl = gs at *
      simp [evB, evS, evE, evL, evO, evOs, evEs, evT, evTs, evI, evC, evP, evDd, evPs, evWs, evG, evGs, fSeq2, aft, fNext, fRet, fIf, fAsg, fAsgL, fAsgT, fAsgD, fPar, fWv, fWl, fW0, setWs, wiS, fLit, fVar, Pf.slotAt, varS, fBin, fNeg, negD, fCmp, fChain, fAnd, fOr, fNot, fBool, boolS, fTest, fIte, fAt, fAtD, fCut, fPart, fNoPart, fOs, fOs0, fFn, fVs, fVs0, fTup, fFresh, fDisp, fTupOf, fListOf, fIsi, fCall, fCallW, fVal, fSlotC, isSet, Pf.rs, Pf.rsS, Pf.rsV, rsAll, rsD, keyD, datS, datsS, setS_s, setS_dv, setS_ol, setS_dat, setS_none, setS_olst, setS_rlst, setS_fdic, setS_odic, gN, gT, gs0, gsC, lenIs, binD, addD, subD, mulD, fdivD, modD, cmpD, ordD, isD, isN, isiD, at_l, at_t, fn_lenL, fn_lenT, fn_max2, fn_abs, fn_int, fn_intb, intV, seq_l, seq_t, lstV, fApp, fAugD, fAugI, olS, odS, odH, inS, getElem_s]
    · rw [List.length_map]; unfold lim; omega
    · exact hcomp
  have hcomp2 := comp_map (vs := [3, 4]) (bd := evG (.tup 2 (.cons (.name 3) (.cons (.name 4) .nil)))) (cond := evC (Y m) c__law_sets_2c) (elt := evE (Y m) c__law_sets_2e) (f := prD) (g := tl) (p := fun _ => true) (en := E0 F o) (alls l) fun s hs => by
    refine ⟨((E0 F o).set 3 (some (.dat (.int (s.length : Int))))).set 4 (some (.dat (tl s))), ((E0 F o).set 3 (some (.dat (.int (s.length : Int))))).set 4 (some (.dat (tl s))), rfl, rfl, ?_⟩
    rw [if_pos rfl]
    refine ⟨((E0 F o).set 3 (some (.dat (.int (s.length : Int))))).set 4 (some (.dat (tl s))), ?_, rfl⟩
    rw [hE]
    generalize tl s = S at *
    generalize F.map tl = A at *
    simp [c__law_sets_2e, evB, evS, evE, evL, evO, evOs, evEs, evT, evTs, evI, evC, evP, evDd, evPs, evWs, evG, evGs, fSeq2, aft, fNext, fRet, fIf, fAsg, fAsgL, fAsgT, fAsgD, fPar, fWv, fWl, fW0, setWs, wiS, fLit, fVar, Pf.slotAt, varS, fBin, fNeg, negD, fCmp, fChain, fAnd, fOr, fNot, fBool, boolS, fTest, fIte, fAt, fAtD, fCut, fPart, fNoPart, fOs, fOs0, fFn, fVs, fVs0, fTup, fFresh, fDisp, fTupOf, fListOf, fIsi, fCall, fCallW, fVal, fSlotC, isSet, Pf.rs, Pf.rsS, Pf.rsV, rsAll, rsD, keyD, datS, datsS, setS_s, setS_dv, setS_ol, setS_dat, setS_none, setS_olst, setS_rlst, setS_fdic, setS_odic, gN, gT, gs0, gsC, lenIs, binD, addD, subD, mulD, fdivD, modD, cmpD, ordD, isD, isN, isiD, at_l, at_t, fn_lenL, fn_lenT, fn_max2, fn_abs, fn_int, fn_intb, intV, seq_l, seq_t, lstV, fApp, fAugD, fAugI, olS, odS, odH, inS, getElem_s]
  rw [List.filter_eq_self.mpr fun _ _ => rfl] at hcomp2
  have hc2 : evL (Y m) c__law_sets_2 (E0 F o) = some ((alls l).map tl, E0 F o) := by
    unfold c__law_sets_2
    refine (comp_ev (ds := (alls l).map prD) (en1 := E0 F o) (en2 := E0 F o) (r := (alls l).map tl) ?_ ?_ ?_).trans rfl
    · unfold c__law_sets_2i
      rw [evI]; unfold fSeq
      rw [← hso]
      generalize F.map prD = gs at *
      simp [evE, evL, fFresh, fSort, evO, fVal, hc, Pf.rs, Pf.rsV, lstV, hal, datS, seq_l]
    · rw [List.length_map]; unfold lim; omega
    · exact hcomp2
  refine fb_ret (en' := E0 F o) rfl (B_next (en1 := E0 [[]] none) ?_ (B_next (for_next (ds := il l) (en1 := E0 [[]] none) ?_ h1) (B_ret ?_))) rfl
  · have e1 : tl [] = .tuple [] := rfl
    simp [evB, evS, evE, evL, evO, evOs, evEs, evT, evTs, evI, evC, evP, evDd, evPs, evWs, evG, evGs, fSeq2, aft, fNext, fRet, fIf, fAsg, fAsgL, fAsgT, fAsgD, fPar, fWv, fWl, fW0, setWs, wiS, fLit, fVar, Pf.slotAt, varS, fBin, fNeg, negD, fCmp, fChain, fAnd, fOr, fNot, fBool, boolS, fTest, fIte, fAt, fAtD, fCut, fPart, fNoPart, fOs, fOs0, fFn, fVs, fVs0, fTup, fFresh, fDisp, fTupOf, fListOf, fIsi, fCall, fCallW, fVal, fSlotC, isSet, Pf.rs, Pf.rsS, Pf.rsV, rsAll, rsD, keyD, datS, datsS, setS_s, setS_dv, setS_ol, setS_dat, setS_none, setS_olst, setS_rlst, setS_fdic, setS_odic, gN, gT, gs0, gsC, lenIs, binD, addD, subD, mulD, fdivD, modD, cmpD, ordD, isD, isN, isiD, at_l, at_t, fn_lenL, fn_lenT, fn_max2, fn_abs, fn_int, fn_intb, intV, seq_l, seq_t, lstV, fApp, fAugD, fAugI, olS, odS, odH, inS, getElem_s, hE, List.replicate, l0, l1, e1]
  · rw [evI]; unfold fSeq
    generalize il l = gs at *
    simp [evB, evS, evE, evL, evO, evOs, evEs, evT, evTs, evI, evC, evP, evDd, evPs, evWs, evG, evGs, fSeq2, aft, fNext, fRet, fIf, fAsg, fAsgL, fAsgT, fAsgD, fPar, fWv, fWl, fW0, setWs, wiS, fLit, fVar, Pf.slotAt, varS, fBin, fNeg, negD, fCmp, fChain, fAnd, fOr, fNot, fBool, boolS, fTest, fIte, fAt, fAtD, fCut, fPart, fNoPart, fOs, fOs0, fFn, fVs, fVs0, fTup, fFresh, fDisp, fTupOf, fListOf, fIsi, fCall, fCallW, fVal, fSlotC, isSet, Pf.rs, Pf.rsS, Pf.rsV, rsAll, rsD, keyD, datS, datsS, setS_s, setS_dv, setS_ol, setS_dat, setS_none, setS_olst, setS_rlst, setS_fdic, setS_odic, gN, gT, gs0, gsC, lenIs, binD, addD, subD, mulD, fdivD, modD, cmpD, ordD, isD, isN, isiD, at_l, at_t, fn_lenL, fn_lenT, fn_max2, fn_abs, fn_int, fn_intb, intV, seq_l, seq_t, lstV, fApp, fAugD, fAugI, olS, odS, odH, inS, getElem_s, hE]
  · generalize (alls l).map tl = A at *
    simp [evS, fRet, fFresh, evE, hc2, datS]


theorem set_of_lv {lvm : Nat} (hm0 : 1 ≤ lvm) {l : List Int} (h : l.length < 60) : ((Y lvm).f 4).2 [.dat (tl l)] = some (tl (usort l), [.dat (tl l)]) :=
  lvl (P := fun lvm => ((Y lvm).f 4).2 [.dat (tl l)] = some (tl (usort l), [.dat (tl l)])) 1 (fun n => set_of_ok n h) lvm hm0
end K26

set_option maxHeartbeats 4000000
namespace K26
open PySem L2 Pf
/-! ### nested data -/
def At (d : D) : Prop := d = .none ∨ (∃ i, d = .int i) ∨ (∃ b, d = .bool b) ∨ ∃ s, d = .str s ∧ shp (.str s) = true
def Nd : Nat → D → Prop
  | 0, d => At d
  | n + 1, d => At d ∨ ∃ ds, (d = .tuple ds ∨ d = .list ds) ∧ ds.length ≤ 12 ∧ ∀ x ∈ ds, Nd n x
theorem At.shD {n : Nat} {d : D} (h : At d) : shD n d := by
  rcases h with rfl | ⟨i, rfl⟩ | ⟨b, rfl⟩ | ⟨s, rfl, h⟩
  · exact shD_none n
  · exact shD_int n i
  · exact ⟨by unfold PyData.canLay0; rfl, by unfold PyData.depth; exact Nat.zero_le _⟩
  · have h : (PyData.canLay0 (.str s) && decide (PyData.depth (.str s) ≤ 64)) = true := h
    rw [Bool.and_eq_true] at h
    exact ⟨h.1, by unfold PyData.depth; exact Nat.zero_le _⟩
theorem Nd.shD : ∀ {n : Nat} {d : D}, Nd n d → shD n d
  | 0, d, h => At.shD h
  | n + 1, d, h => by
    rcases h with h | ⟨ds, h, _, hx⟩
    · exact At.shD h
    · rcases h with rfl | rfl
      · exact shD_tuple fun x hx' => (hx x hx').shD
      · exact shD_list fun x hx' => (hx x hx').shD
theorem Nd.up : ∀ {n : Nat} {d : D}, Nd n d → Nd (n + 1) d
  | 0, d, h => .inl h
  | n + 1, d, h => by
    rcases h with h | ⟨ds, h, hl, hx⟩
    · exact .inl h
    · exact .inr ⟨ds, h, hl, fun x hx' => (hx x hx').up⟩
def nD : D → Prop
  | .dict _ => False
  | _ => True
theorem Nd.nd {n : Nat} {d : D} (h : Nd n d) : nD d := by
  cases n with
  | zero => rcases h with rfl | ⟨i, rfl⟩ | ⟨b, rfl⟩ | ⟨s, rfl, h⟩ <;> trivial
  | succ n =>
    rcases h with (rfl | ⟨i, rfl⟩ | ⟨b, rfl⟩ | ⟨s, rfl, h⟩) | ⟨ds, rfl | rfl, _⟩ <;> trivial
def isI : D → Bool
  | .int _ => true
  | _ => false
def toI : D → Int
  | .int i => i
  | _ => 0
def isF : D → Bool
  | .int i => decide (0 ≤ i)
  | _ => false
theorem isF_int {d : D} (h : isF d = true) : ∃ i, d = .int i ∧ 0 ≤ i := by
  cases d with
  | int i => exact ⟨i, rfl, of_decide_eq_true h⟩
  | _ => cases h
theorem is_number_ok (n : Nat) {d : D} (h : nD d) : ((Y (n + 1)).f 0).2 [.dat d] = some (.bool (isI d), [.dat d]) := by
  rw [f_is_number]
  cases d <;> first | exact h.elim | (simp [fBody, b_is_number, evB, evS, evE, evL, evO, evOs, evEs, evT, evTs, evI, evC, evP, evDd, evPs, evWs, evG, evGs, fSeq2, aft, fNext, fRet, fIf, fAsg, fAsgL, fAsgT, fAsgD, fPar, fWv, fWl, fW0, setWs, wiS, fLit, fVar, Pf.slotAt, varS, fBin, fNeg, negD, fCmp, fChain, fAnd, fOr, fNot, fBool, boolS, fTest, fIte, fAt, fAtD, fCut, fPart, fNoPart, fOs, fOs0, fFn, fVs, fVs0, fTup, fFresh, fDisp, fTupOf, fListOf, fIsi, fCall, fCallW, fVal, fSlotC, isSet, Pf.rs, Pf.rsS, Pf.rsV, rsAll, rsD, keyD, datS, datsS, setS_s, setS_dv, setS_ol, setS_dat, setS_none, setS_olst, setS_rlst, setS_fdic, setS_odic, gN, gT, gs0, gsC, lenIs, binD, addD, subD, mulD, fdivD, modD, cmpD, ordD, isD, isN, isiD, at_l, at_t, fn_lenL, fn_lenT, fn_max2, fn_abs, fn_int, fn_intb, intV, seq_l, seq_t, lstV, fApp, fAugD, fAugI, olS, odS, odH, inS, getElem_s, endV, outs, ownB, isI])
theorem law_is_number_ok (n : Nat) {d : D} (h : nD d) : ((Y (n + 1)).f 17).2 [.dat d] = some (.bool (isI d), [.dat d]) := by
  rw [f__law_is_number]
  cases d <;> first | exact h.elim | (simp [fBody, b__law_is_number, evB, evS, evE, evL, evO, evOs, evEs, evT, evTs, evI, evC, evP, evDd, evPs, evWs, evG, evGs, fSeq2, aft, fNext, fRet, fIf, fAsg, fAsgL, fAsgT, fAsgD, fPar, fWv, fWl, fW0, setWs, wiS, fLit, fVar, Pf.slotAt, varS, fBin, fNeg, negD, fCmp, fChain, fAnd, fOr, fNot, fBool, boolS, fTest, fIte, fAt, fAtD, fCut, fPart, fNoPart, fOs, fOs0, fFn, fVs, fVs0, fTup, fFresh, fDisp, fTupOf, fListOf, fIsi, fCall, fCallW, fVal, fSlotC, isSet, Pf.rs, Pf.rsS, Pf.rsV, rsAll, rsD, keyD, datS, datsS, setS_s, setS_dv, setS_ol, setS_dat, setS_none, setS_olst, setS_rlst, setS_fdic, setS_odic, gN, gT, gs0, gsC, lenIs, binD, addD, subD, mulD, fdivD, modD, cmpD, ordD, isD, isN, isiD, at_l, at_t, fn_lenL, fn_lenT, fn_max2, fn_abs, fn_int, fn_intb, intV, seq_l, seq_t, lstV, fApp, fAugD, fAugI, olS, odS, odH, inS, getElem_s, endV, outs, ownB, isI])
theorem is_from_ok (n : Nat) {d : D} (h : nD d) : ((Y (n + 2)).f 1).2 [.dat d, .dat (.int 0)] = some (.bool (isF d), [.dat d, .dat (.int 0)]) := by
  have h1 := is_number_ok n h
  rw [f_is_from]
  cases d with
  | int i =>
    have h1 : ((Y (n + 1)).f 0).2 [.dat (.int i)] = some (.bool true, [.dat (.int i)]) := h1
    simp [fBody, b_is_from, evB, evS, evE, evL, evO, evOs, evEs, evT, evTs, evI, evC, evP, evDd, evPs, evWs, evG, evGs, fSeq2, aft, fNext, fRet, fIf, fAsg, fAsgL, fAsgT, fAsgD, fPar, fWv, fWl, fW0, setWs, wiS, fLit, fVar, Pf.slotAt, varS, fBin, fNeg, negD, fCmp, fChain, fAnd, fOr, fNot, fBool, boolS, fTest, fIte, fAt, fAtD, fCut, fPart, fNoPart, fOs, fOs0, fFn, fVs, fVs0, fTup, fFresh, fDisp, fTupOf, fListOf, fIsi, fCall, fCallW, fVal, fSlotC, isSet, Pf.rs, Pf.rsS, Pf.rsV, rsAll, rsD, keyD, datS, datsS, setS_s, setS_dv, setS_ol, setS_dat, setS_none, setS_olst, setS_rlst, setS_fdic, setS_odic, gN, gT, gs0, gsC, lenIs, binD, addD, subD, mulD, fdivD, modD, cmpD, ordD, isD, isN, isiD, at_l, at_t, fn_lenL, fn_lenT, fn_max2, fn_abs, fn_int, fn_intb, intV, seq_l, seq_t, lstV, fApp, fAugD, fAugI, olS, odS, odH, inS, getElem_s, np_is_number, h1, endV, outs, ownB, isF]
  | dict _ => exact h.elim
  | none =>
    have h1 : ((Y (n + 1)).f 0).2 [.dat .none] = some (.bool false, [.dat .none]) := h1
    simp [fBody, b_is_from, evB, evS, evE, evL, evO, evOs, evEs, evT, evTs, evI, evC, evP, evDd, evPs, evWs, evG, evGs, fSeq2, aft, fNext, fRet, fIf, fAsg, fAsgL, fAsgT, fAsgD, fPar, fWv, fWl, fW0, setWs, wiS, fLit, fVar, Pf.slotAt, varS, fBin, fNeg, negD, fCmp, fChain, fAnd, fOr, fNot, fBool, boolS, fTest, fIte, fAt, fAtD, fCut, fPart, fNoPart, fOs, fOs0, fFn, fVs, fVs0, fTup, fFresh, fDisp, fTupOf, fListOf, fIsi, fCall, fCallW, fVal, fSlotC, isSet, Pf.rs, Pf.rsS, Pf.rsV, rsAll, rsD, keyD, datS, datsS, setS_s, setS_dv, setS_ol, setS_dat, setS_none, setS_olst, setS_rlst, setS_fdic, setS_odic, gN, gT, gs0, gsC, lenIs, binD, addD, subD, mulD, fdivD, modD, cmpD, ordD, isD, isN, isiD, at_l, at_t, fn_lenL, fn_lenT, fn_max2, fn_abs, fn_int, fn_intb, intV, seq_l, seq_t, lstV, fApp, fAugD, fAugI, olS, odS, odH, inS, getElem_s, np_is_number, h1, endV, outs, ownB, isF]
  | bool b =>
    have h1 : ((Y (n + 1)).f 0).2 [.dat (.bool b)] = some (.bool false, [.dat (.bool b)]) := h1
    simp [fBody, b_is_from, evB, evS, evE, evL, evO, evOs, evEs, evT, evTs, evI, evC, evP, evDd, evPs, evWs, evG, evGs, fSeq2, aft, fNext, fRet, fIf, fAsg, fAsgL, fAsgT, fAsgD, fPar, fWv, fWl, fW0, setWs, wiS, fLit, fVar, Pf.slotAt, varS, fBin, fNeg, negD, fCmp, fChain, fAnd, fOr, fNot, fBool, boolS, fTest, fIte, fAt, fAtD, fCut, fPart, fNoPart, fOs, fOs0, fFn, fVs, fVs0, fTup, fFresh, fDisp, fTupOf, fListOf, fIsi, fCall, fCallW, fVal, fSlotC, isSet, Pf.rs, Pf.rsS, Pf.rsV, rsAll, rsD, keyD, datS, datsS, setS_s, setS_dv, setS_ol, setS_dat, setS_none, setS_olst, setS_rlst, setS_fdic, setS_odic, gN, gT, gs0, gsC, lenIs, binD, addD, subD, mulD, fdivD, modD, cmpD, ordD, isD, isN, isiD, at_l, at_t, fn_lenL, fn_lenT, fn_max2, fn_abs, fn_int, fn_intb, intV, seq_l, seq_t, lstV, fApp, fAugD, fAugI, olS, odS, odH, inS, getElem_s, np_is_number, h1, endV, outs, ownB, isF]
  | str b =>
    have h1 : ((Y (n + 1)).f 0).2 [.dat (.str b)] = some (.bool false, [.dat (.str b)]) := h1
    simp [fBody, b_is_from, evB, evS, evE, evL, evO, evOs, evEs, evT, evTs, evI, evC, evP, evDd, evPs, evWs, evG, evGs, fSeq2, aft, fNext, fRet, fIf, fAsg, fAsgL, fAsgT, fAsgD, fPar, fWv, fWl, fW0, setWs, wiS, fLit, fVar, Pf.slotAt, varS, fBin, fNeg, negD, fCmp, fChain, fAnd, fOr, fNot, fBool, boolS, fTest, fIte, fAt, fAtD, fCut, fPart, fNoPart, fOs, fOs0, fFn, fVs, fVs0, fTup, fFresh, fDisp, fTupOf, fListOf, fIsi, fCall, fCallW, fVal, fSlotC, isSet, Pf.rs, Pf.rsS, Pf.rsV, rsAll, rsD, keyD, datS, datsS, setS_s, setS_dv, setS_ol, setS_dat, setS_none, setS_olst, setS_rlst, setS_fdic, setS_odic, gN, gT, gs0, gsC, lenIs, binD, addD, subD, mulD, fdivD, modD, cmpD, ordD, isD, isN, isiD, at_l, at_t, fn_lenL, fn_lenT, fn_max2, fn_abs, fn_int, fn_intb, intV, seq_l, seq_t, lstV, fApp, fAugD, fAugI, olS, odS, odH, inS, getElem_s, np_is_number, h1, endV, outs, ownB, isF]
  | list b =>
    have h1 : ((Y (n + 1)).f 0).2 [.dat (.list b)] = some (.bool false, [.dat (.list b)]) := h1
    simp [fBody, b_is_from, evB, evS, evE, evL, evO, evOs, evEs, evT, evTs, evI, evC, evP, evDd, evPs, evWs, evG, evGs, fSeq2, aft, fNext, fRet, fIf, fAsg, fAsgL, fAsgT, fAsgD, fPar, fWv, fWl, fW0, setWs, wiS, fLit, fVar, Pf.slotAt, varS, fBin, fNeg, negD, fCmp, fChain, fAnd, fOr, fNot, fBool, boolS, fTest, fIte, fAt, fAtD, fCut, fPart, fNoPart, fOs, fOs0, fFn, fVs, fVs0, fTup, fFresh, fDisp, fTupOf, fListOf, fIsi, fCall, fCallW, fVal, fSlotC, isSet, Pf.rs, Pf.rsS, Pf.rsV, rsAll, rsD, keyD, datS, datsS, setS_s, setS_dv, setS_ol, setS_dat, setS_none, setS_olst, setS_rlst, setS_fdic, setS_odic, gN, gT, gs0, gsC, lenIs, binD, addD, subD, mulD, fdivD, modD, cmpD, ordD, isD, isN, isiD, at_l, at_t, fn_lenL, fn_lenT, fn_max2, fn_abs, fn_int, fn_intb, intV, seq_l, seq_t, lstV, fApp, fAugD, fAugI, olS, odS, odH, inS, getElem_s, np_is_number, h1, endV, outs, ownB, isF]
  | tuple b =>
    have h1 : ((Y (n + 1)).f 0).2 [.dat (.tuple b)] = some (.bool false, [.dat (.tuple b)]) := h1
    simp [fBody, b_is_from, evB, evS, evE, evL, evO, evOs, evEs, evT, evTs, evI, evC, evP, evDd, evPs, evWs, evG, evGs, fSeq2, aft, fNext, fRet, fIf, fAsg, fAsgL, fAsgT, fAsgD, fPar, fWv, fWl, fW0, setWs, wiS, fLit, fVar, Pf.slotAt, varS, fBin, fNeg, negD, fCmp, fChain, fAnd, fOr, fNot, fBool, boolS, fTest, fIte, fAt, fAtD, fCut, fPart, fNoPart, fOs, fOs0, fFn, fVs, fVs0, fTup, fFresh, fDisp, fTupOf, fListOf, fIsi, fCall, fCallW, fVal, fSlotC, isSet, Pf.rs, Pf.rsS, Pf.rsV, rsAll, rsD, keyD, datS, datsS, setS_s, setS_dv, setS_ol, setS_dat, setS_none, setS_olst, setS_rlst, setS_fdic, setS_odic, gN, gT, gs0, gsC, lenIs, binD, addD, subD, mulD, fdivD, modD, cmpD, ordD, isD, isN, isiD, at_l, at_t, fn_lenL, fn_lenT, fn_max2, fn_abs, fn_int, fn_intb, intV, seq_l, seq_t, lstV, fApp, fAugD, fAugI, olS, odS, odH, inS, getElem_s, np_is_number, h1, endV, outs, ownB, isF]
theorem asc_pw : ∀ {l : List Int}, (∀ k (h : k + 1 < l.length), l[k] < l[k + 1]) → l.Pairwise (· < ·)
  | [], _ => List.Pairwise.nil
  | [x], _ => List.pairwise_singleton _ _
  | x :: y :: r, h => by
    have ih : (y :: r).Pairwise (· < ·) := asc_pw fun k hk => h (k + 1) (by simpa using hk)
    refine List.pairwise_cons.mpr ⟨fun z hz => ?_, ih⟩
    have h0 : x < y := h 0 (by simp)
    rcases List.mem_cons.mp hz with rfl | hz
    · exact h0
    · have := (List.pairwise_cons.mp ih).1 z hz
      omega
def gdI (l : List Int) (k : Nat) : Int := l.getD k 0
theorem asc_us (l : List Int) : ((List.range (l.length - 1)).all fun k => decide (gdI l k < gdI l (k + 1))) = decide (l = usort l) := by
  by_cases h : l = usort l
  · rw [decide_eq_true h]
    refine List.all_eq_true.mpr fun k hk => decide_eq_true ?_
    have hk := List.mem_range.mp hk
    have hp : l.Pairwise (· < ·) := by rw [h]; exact usort_lt l
    have := List.pairwise_iff_getElem.mp hp k (k + 1) (by omega) (by omega) (by omega)
    unfold gdI
    rw [List.getD_eq_getElem?_getD, List.getD_eq_getElem?_getD, List.getElem?_eq_getElem (by omega), List.getElem?_eq_getElem (by omega)]
    exact this
  · rw [decide_eq_false h]
    refine Bool.eq_false_iff.mpr fun z => h ?_
    have hp : l.Pairwise (· < ·) := asc_pw fun k hk => by
      have := of_decide_eq_true (List.all_eq_true.mp z k (List.mem_range.mpr (by omega)))
      unfold gdI at this
      rw [List.getD_eq_getElem?_getD, List.getD_eq_getElem?_getD, List.getElem?_eq_getElem (by omega), List.getElem?_eq_getElem (by omega)] at this
      exact this
    exact lt_unique hp (usort_lt l) fun k => (usort_mem l k).symm
theorem rng1m_ev {Y : Sys} {as : Os} {en en1 : En} {os : List Op} {m : Int} {k : Nat} (h : evOs Y as en = some (os, en1)) (h2 : rsAll os en1 = some [.int m]) (hm : m.toNat = k) (hk : -1000000 ≤ m ∧ m ≤ 1000000) : evI Y (.rng1 as) en = some (rngD 0 k, en1) := by
  rw [evI]; unfold fRng1
  rw [h, Option.bind_some, h2, Option.bind_some]
  show (if -1000000 ≤ m ∧ m ≤ 1000000 then some (rngD 0 m.toNat, en1) else none) = _
  rw [if_pos hk, hm]
theorem is_ascending_lv {lvm : Nat} (hm0 : 1 ≤ lvm) {l : List Int} (hl : l.length ≤ 50) : ((Y lvm).f 2).2 [.dat (tl l)] = some (.bool (decide (l = usort l)), [.dat (tl l)]) := by
  obtain ⟨m, rfl⟩ : ∃ m, lvm = m + 1 := ⟨lvm - 1, by omega⟩
  rw [f_is_ascending]
  have hat : ∀ {k : Nat}, k < l.length → atD (tl l) (.int (k : Int)) = some (.int (gdI l k)) := fun {k} hk => by
    show atI (il l) _ = _
    refine atI_nat ?_
    unfold il gdI
    rw [List.getElem?_map, List.getD_eq_getElem?_getD, List.getElem?_eq_getElem hk]
    rfl
  have hln : fnD .len [tl l] = some (.int (l.length : Int)) := by
    show some (PyData.int _) = _
    unfold il; rw [List.length_map]
  have hcomp := comp_map (vs := [1]) (bd := evG (.name 1)) (cond := evC (Y m) c_is_ascending_1c) (elt := evE (Y m) c_is_ascending_1e) (f := fun k : Nat => PyData.int (k : Int)) (g := fun k => PyData.bool (decide (gdI l k < gdI l (k + 1)))) (p := fun _ => true) (en := [some (.dat (tl l)), none]) (List.range (l.length - 1)) fun k hk => by
    have hk := List.mem_range.mp hk
    have a1 := hat (k := k) (by omega)
    have a2 := hat (k := k + 1) (by omega)
    rw [show ((k + 1 : Nat) : Int) = (k : Int) + 1 by omega] at a2
    refine ⟨[some (.dat (tl l)), some (.dat (.int (k : Int)))], [some (.dat (tl l)), some (.dat (.int (k : Int)))], rfl, rfl, ?_⟩
    rw [if_pos rfl]
    refine ⟨[some (.dat (tl l)), some (.dat (.int (k : Int)))], ?_, rfl⟩
    generalize tl l = T0 at *
    simp [c_is_ascending_1e, evB, evS, evE, evL, evO, evOs, evEs, evT, evTs, evI, evC, evP, evDd, evPs, evWs, evG, evGs, fSeq2, aft, fNext, fRet, fIf, fAsg, fAsgL, fAsgT, fAsgD, fPar, fWv, fWl, fW0, setWs, wiS, fLit, fVar, Pf.slotAt, varS, fBin, fNeg, negD, fCmp, fChain, fAnd, fOr, fNot, fBool, boolS, fTest, fIte, fAt, fAtD, fCut, fPart, fNoPart, fOs, fOs0, fFn, fVs, fVs0, fTup, fFresh, fDisp, fTupOf, fListOf, fIsi, fCall, fCallW, fVal, fSlotC, isSet, Pf.rs, Pf.rsS, Pf.rsV, rsAll, rsD, keyD, datS, datsS, setS_s, setS_dv, setS_ol, setS_dat, setS_none, setS_olst, setS_rlst, setS_fdic, setS_odic, gN, gT, gs0, gsC, lenIs, binD, addD, subD, mulD, fdivD, modD, cmpD, ordD, isD, isN, isiD, at_l, at_t, fn_lenL, fn_lenT, fn_max2, fn_abs, fn_int, fn_intb, intV, seq_l, seq_t, lstV, fApp, fAugD, fAugI, olS, odS, odH, inS, getElem_s, a1, a2]
  rw [List.filter_eq_self.mpr fun _ _ => rfl] at hcomp
  have hc : evL (Y m) c_is_ascending_1 [some (.dat (tl l)), none] = some (((List.range (l.length - 1)).map fun k => decide (gdI l k < gdI l (k + 1))).map PyData.bool, [some (.dat (tl l)), none]) := by
    unfold c_is_ascending_1
    refine (comp_ev (ds := rngD 0 (l.length - 1)) (en1 := [some (.dat (tl l)), none]) (en2 := [some (.dat (tl l)), none]) (r := ((List.range (l.length - 1)).map fun k => decide (gdI l k < gdI l (k + 1))).map PyData.bool) ?_ ?_ ?_).trans rfl
    · refine rng1m_ev (os := [.val (.dat (.int ((l.length : Int) - 1)))]) (m := (l.length : Int) - 1) ?_ ?_ (by omega) (by omega)
      · generalize tl l = T0 at *
        simp [evB, evS, evE, evL, evO, evOs, evEs, evT, evTs, evI, evC, evP, evDd, evPs, evWs, evG, evGs, fSeq2, aft, fNext, fRet, fIf, fAsg, fAsgL, fAsgT, fAsgD, fPar, fWv, fWl, fW0, setWs, wiS, fLit, fVar, Pf.slotAt, varS, fBin, fNeg, negD, fCmp, fChain, fAnd, fOr, fNot, fBool, boolS, fTest, fIte, fAt, fAtD, fCut, fPart, fNoPart, fOs, fOs0, fFn, fVs, fVs0, fTup, fFresh, fDisp, fTupOf, fListOf, fIsi, fCall, fCallW, fVal, fSlotC, isSet, Pf.rs, Pf.rsS, Pf.rsV, rsAll, rsD, keyD, datS, datsS, setS_s, setS_dv, setS_ol, setS_dat, setS_none, setS_olst, setS_rlst, setS_fdic, setS_odic, gN, gT, gs0, gsC, lenIs, binD, addD, subD, mulD, fdivD, modD, cmpD, ordD, isD, isN, isiD, at_l, at_t, fn_lenL, fn_lenT, fn_max2, fn_abs, fn_int, fn_intb, intV, seq_l, seq_t, lstV, fApp, fAugD, fAugI, olS, odS, odH, inS, getElem_s, hln]
      · simp [evB, evS, evE, evL, evO, evOs, evEs, evT, evTs, evI, evC, evP, evDd, evPs, evWs, evG, evGs, fSeq2, aft, fNext, fRet, fIf, fAsg, fAsgL, fAsgT, fAsgD, fPar, fWv, fWl, fW0, setWs, wiS, fLit, fVar, Pf.slotAt, varS, fBin, fNeg, negD, fCmp, fChain, fAnd, fOr, fNot, fBool, boolS, fTest, fIte, fAt, fAtD, fCut, fPart, fNoPart, fOs, fOs0, fFn, fVs, fVs0, fTup, fFresh, fDisp, fTupOf, fListOf, fIsi, fCall, fCallW, fVal, fSlotC, isSet, Pf.rs, Pf.rsS, Pf.rsV, rsAll, rsD, keyD, datS, datsS, setS_s, setS_dv, setS_ol, setS_dat, setS_none, setS_olst, setS_rlst, setS_fdic, setS_odic, gN, gT, gs0, gsC, lenIs, binD, addD, subD, mulD, fdivD, modD, cmpD, ordD, isD, isN, isiD, at_l, at_t, fn_lenL, fn_lenT, fn_max2, fn_abs, fn_int, fn_intb, intV, seq_l, seq_t, lstV, fApp, fAugD, fAugI, olS, odS, odH, inS, getElem_s]
    · rw [rngD_len]; unfold lim; omega
    · rw [rngD_map, List.map_map]
      exact hcomp
  have hb := boolsOf_map ((List.range (l.length - 1)).map fun k => decide (gdI l k < gdI l (k + 1)))
  have ha := asc_us l
  rw [← ha]
  have hfn : fnD .all [.list (((List.range (l.length - 1)).map fun k => decide (gdI l k < gdI l (k + 1))).map PyData.bool)] = some (.bool ((List.range (l.length - 1)).all fun k => decide (gdI l k < gdI l (k + 1)))) := by
    show (boolsOf _).map _ = _
    rw [hb, Option.map_some, List.all_map]
    rfl
  generalize ((List.range (l.length - 1)).map fun k => decide (gdI l k < gdI l (k + 1))).map PyData.bool = bs at *
  generalize ((List.range (l.length - 1)).all fun k => decide (gdI l k < gdI l (k + 1))) = v at *
  generalize tl l = T0 at *
  refine fb_ret (en' := [some (.dat T0), none]) rfl (B_ret ?_) rfl
  simp [evB, evS, evE, evL, evO, evOs, evEs, evT, evTs, evI, evC, evP, evDd, evPs, evWs, evG, evGs, fSeq2, aft, fNext, fRet, fIf, fAsg, fAsgL, fAsgT, fAsgD, fPar, fWv, fWl, fW0, setWs, wiS, fLit, fVar, Pf.slotAt, varS, fBin, fNeg, negD, fCmp, fChain, fAnd, fOr, fNot, fBool, boolS, fTest, fIte, fAt, fAtD, fCut, fPart, fNoPart, fOs, fOs0, fFn, fVs, fVs0, fTup, fFresh, fDisp, fTupOf, fListOf, fIsi, fCall, fCallW, fVal, fSlotC, isSet, Pf.rs, Pf.rsS, Pf.rsV, rsAll, rsD, keyD, datS, datsS, setS_s, setS_dv, setS_ol, setS_dat, setS_none, setS_olst, setS_rlst, setS_fdic, setS_odic, gN, gT, gs0, gsC, lenIs, binD, addD, subD, mulD, fdivD, modD, cmpD, ordD, isD, isN, isiD, at_l, at_t, fn_lenL, fn_lenT, fn_max2, fn_abs, fn_int, fn_intb, intV, seq_l, seq_t, lstV, fApp, fAugD, fAugI, olS, odS, odH, inS, getElem_s, List.replicate, hc, hfn]


theorem is_number_lv {lvm : Nat} (hm0 : 1 ≤ lvm) {d : D} (h : nD d) : ((Y lvm).f 0).2 [.dat d] = some (.bool (isI d), [.dat d]) :=
  lvl (P := fun lvm => ((Y lvm).f 0).2 [.dat d] = some (.bool (isI d), [.dat d])) 1 (fun n => is_number_ok n h) lvm hm0
theorem law_is_number_lv {lvm : Nat} (hm0 : 1 ≤ lvm) {d : D} (h : nD d) : ((Y lvm).f 17).2 [.dat d] = some (.bool (isI d), [.dat d]) :=
  lvl (P := fun lvm => ((Y lvm).f 17).2 [.dat d] = some (.bool (isI d), [.dat d])) 1 (fun n => law_is_number_ok n h) lvm hm0
theorem is_from_lv {lvm : Nat} (hm0 : 2 ≤ lvm) {d : D} (h : nD d) : ((Y lvm).f 1).2 [.dat d, .dat (.int 0)] = some (.bool (isF d), [.dat d, .dat (.int 0)]) :=
  lvl (P := fun lvm => ((Y lvm).f 1).2 [.dat d, .dat (.int 0)] = some (.bool (isF d), [.dat d, .dat (.int 0)])) 2 (fun n => is_from_ok n h) lvm hm0
end K26

set_option maxHeartbeats 4000000
namespace K26
open PySem L2 Pf
/-- a set of numbers from 0 on -/
def isNS : D → Bool
  | .tuple xs => xs.all isF && decide (xs.map toI = usort (xs.map toI))
  | _ => false
theorem allF_il {xs : List D} (h : xs.all isF = true) : xs = il (xs.map toI) := by
  unfold il
  rw [List.map_map]
  refine (List.map_id _).symm.trans (List.map_congr_left fun x hx => ?_)
  obtain ⟨i, rfl, _⟩ := isF_int (List.all_eq_true.mp h x hx)
  rfl
theorem fn_all (bs : List Bool) : fnD .all [.list (bs.map PyData.bool)] = some (.bool (bs.all id)) := by
  show (boolsOf _).map _ = _
  rw [boolsOf_map]
  rfl
theorem is_number_set_lv {lvm : Nat} (hm0 : 3 ≤ lvm) {d : D} {n : Nat} (h : Nd n d) : ((Y lvm).f 3).2 [.dat d] = some (.bool (isNS d), [.dat d]) := by
  obtain ⟨m, rfl⟩ : ∃ m, lvm = m + 1 := ⟨lvm - 1, by omega⟩
  rw [f_is_number_set]
  have key : (∃ ds, d = .tuple ds ∧ ds.length ≤ 12 ∧ ∀ x ∈ ds, nD x) ∨ (isiD .tuple d = some false ∧ isNS d = false) := by
    cases n with
    | zero => rcases h with rfl | ⟨i, rfl⟩ | ⟨b, rfl⟩ | ⟨s, rfl, h⟩ <;> exact .inr ⟨rfl, rfl⟩
    | succ n =>
      rcases h with (rfl | ⟨i, rfl⟩ | ⟨b, rfl⟩ | ⟨s, rfl, h⟩) | ⟨ds, rfl | rfl, hl, hx⟩
      · exact .inr ⟨rfl, rfl⟩
      · exact .inr ⟨rfl, rfl⟩
      · exact .inr ⟨rfl, rfl⟩
      · exact .inr ⟨rfl, rfl⟩
      · exact .inl ⟨ds, rfl, hl, fun x hx' => (hx x hx').nd⟩
      · exact .inr ⟨rfl, rfl⟩
  rcases key with ⟨ds, rfl, hl, hx⟩ | ⟨k1, k2⟩
  rotate_left
  · rw [k2]
    have hz : ∀ (t : Ty), t = .tuple → isiD t d = some false := fun t e => by rw [e]; exact k1
    refine fb_ret (en' := [some (.dat d), none]) rfl (B_ret ?_) rfl
    have ei : evE (Y m) (.isi .tuple (.slot 0)) [some (.dat d), none] = some (.dat (.bool false), [some (.dat d), none]) := by
      simp [evE, evO, fIsi, fSlotC, isSet, Pf.rs, Pf.rsS, k1]
    simp [evS, evB, evT, evTs, fIf, fOr, fNot, fBool, evE, fLit, fSeq2, aft, fRet, datS, boolS, List.replicate, evO, fIsi, fSlotC, isSet, Pf.rs, Pf.rsS, k1]
  have hcomp := comp_map (vs := [1]) (bd := evG (.name 1)) (cond := evC (Y m) c_is_number_set_1c) (elt := evE (Y m) c_is_number_set_1e) (f := fun x : D => x) (g := fun x => PyData.bool (isF x)) (p := fun _ => true) (en := [some (.dat (.tuple ds)), none]) ds fun x hx' => by
    have h1 := is_from_lv (lvm := m) (by omega) (hx x hx')
    refine ⟨[some (.dat (.tuple ds)), some (.dat x)], [some (.dat (.tuple ds)), some (.dat x)], rfl, rfl, ?_⟩
    rw [if_pos rfl]
    refine ⟨[some (.dat (.tuple ds)), some (.dat x)], ?_, rfl⟩
    simp [c_is_number_set_1e, evB, evS, evE, evL, evO, evOs, evEs, evT, evTs, evI, evC, evP, evDd, evPs, evWs, evG, evGs, fSeq2, aft, fNext, fRet, fIf, fAsg, fAsgL, fAsgT, fAsgD, fPar, fWv, fWl, fW0, setWs, wiS, fLit, fVar, Pf.slotAt, varS, fBin, fNeg, negD, fCmp, fChain, fAnd, fOr, fNot, fBool, boolS, fTest, fIte, fAt, fAtD, fCut, fPart, fNoPart, fOs, fOs0, fFn, fVs, fVs0, fTup, fFresh, fDisp, fTupOf, fListOf, fIsi, fCall, fCallW, fVal, fSlotC, isSet, Pf.rs, Pf.rsS, Pf.rsV, rsAll, rsD, keyD, datS, datsS, setS_s, setS_dv, setS_ol, setS_dat, setS_none, setS_olst, setS_rlst, setS_fdic, setS_odic, gN, gT, gs0, gsC, lenIs, binD, addD, subD, mulD, fdivD, modD, cmpD, ordD, isD, isN, isiD, at_l, at_t, fn_lenL, fn_lenT, fn_max2, fn_abs, fn_int, fn_intb, intV, seq_l, seq_t, lstV, fApp, fAugD, fAugI, olS, odS, odH, inS, getElem_s, np_is_from, h1]
  rw [List.filter_eq_self.mpr fun _ _ => rfl, show ds.map (fun x : D => x) = ds from List.map_id _] at hcomp
  have hc : evL (Y m) c_is_number_set_1 [some (.dat (.tuple ds)), none] = some ((ds.map isF).map PyData.bool, [some (.dat (.tuple ds)), none]) := by
    unfold c_is_number_set_1
    refine (comp_ev (ds := ds) (en1 := [some (.dat (.tuple ds)), none]) (en2 := [some (.dat (.tuple ds)), none]) (r := (ds.map isF).map PyData.bool) ?_ ?_ ?_).trans rfl
    · unfold c_is_number_set_1i
      rw [evI]; unfold fSeq
      simp [evB, evS, evE, evL, evO, evOs, evEs, evT, evTs, evI, evC, evP, evDd, evPs, evWs, evG, evGs, fSeq2, aft, fNext, fRet, fIf, fAsg, fAsgL, fAsgT, fAsgD, fPar, fWv, fWl, fW0, setWs, wiS, fLit, fVar, Pf.slotAt, varS, fBin, fNeg, negD, fCmp, fChain, fAnd, fOr, fNot, fBool, boolS, fTest, fIte, fAt, fAtD, fCut, fPart, fNoPart, fOs, fOs0, fFn, fVs, fVs0, fTup, fFresh, fDisp, fTupOf, fListOf, fIsi, fCall, fCallW, fVal, fSlotC, isSet, Pf.rs, Pf.rsS, Pf.rsV, rsAll, rsD, keyD, datS, datsS, setS_s, setS_dv, setS_ol, setS_dat, setS_none, setS_olst, setS_rlst, setS_fdic, setS_odic, gN, gT, gs0, gsC, lenIs, binD, addD, subD, mulD, fdivD, modD, cmpD, ordD, isD, isN, isiD, at_l, at_t, fn_lenL, fn_lenT, fn_max2, fn_abs, fn_int, fn_intb, intV, seq_l, seq_t, lstV, fApp, fAugD, fAugI, olS, odS, odH, inS, getElem_s]
    · unfold lim; omega
    · rw [List.map_map]; exact hcomp
  have hfn := fn_all (ds.map isF)
  rw [List.all_map] at hfn
  have hfn : fnD .all [.list ((ds.map isF).map PyData.bool)] = some (.bool (ds.all isF)) := hfn
  generalize (ds.map isF).map PyData.bool = bs at *
  cases ha : ds.all isF with
  | false =>
    have : isNS (.tuple ds) = false := by
      show (ds.all isF && _) = _
      rw [ha]; rfl
    rw [this]
    rw [ha] at hfn
    refine fb_ret (en' := [some (.dat (.tuple ds)), none]) rfl (B_ret ?_) rfl
    simp [evB, evS, evE, evL, evO, evOs, evEs, evT, evTs, evI, evC, evP, evDd, evPs, evWs, evG, evGs, fSeq2, aft, fNext, fRet, fIf, fAsg, fAsgL, fAsgT, fAsgD, fPar, fWv, fWl, fW0, setWs, wiS, fLit, fVar, Pf.slotAt, varS, fBin, fNeg, negD, fCmp, fChain, fAnd, fOr, fNot, fBool, boolS, fTest, fIte, fAt, fAtD, fCut, fPart, fNoPart, fOs, fOs0, fFn, fVs, fVs0, fTup, fFresh, fDisp, fTupOf, fListOf, fIsi, fCall, fCallW, fVal, fSlotC, isSet, Pf.rs, Pf.rsS, Pf.rsV, rsAll, rsD, keyD, datS, datsS, setS_s, setS_dv, setS_ol, setS_dat, setS_none, setS_olst, setS_rlst, setS_fdic, setS_odic, gN, gT, gs0, gsC, lenIs, binD, addD, subD, mulD, fdivD, modD, cmpD, ordD, isD, isN, isiD, at_l, at_t, fn_lenL, fn_lenT, fn_max2, fn_abs, fn_int, fn_intb, intV, seq_l, seq_t, lstV, fApp, fAugD, fAugI, olS, odS, odH, inS, getElem_s, List.replicate, hc, hfn]
  | true =>
    have e1 : isNS (.tuple ds) = decide (ds.map toI = usort (ds.map toI)) := by
      show (ds.all isF && _) = _
      rw [ha]; rfl
    rw [e1]
    rw [ha] at hfn
    have e2 := allF_il ha
    have h2 := is_ascending_lv (lvm := m) (by omega) (l := ds.map toI) (by rw [List.length_map]; omega)
    have e3 : tl (ds.map toI) = .tuple ds := by
      show PyData.tuple (il _) = _
      rw [← e2]
    rw [e3] at h2
    generalize decide (ds.map toI = usort (ds.map toI)) = v at *
    refine fb_ret (en' := [some (.dat (.tuple ds)), none]) rfl (B_next (en1 := [some (.dat (.tuple ds)), none]) ?_ (B_ret ?_)) rfl
    · simp [evB, evS, evE, evL, evO, evOs, evEs, evT, evTs, evI, evC, evP, evDd, evPs, evWs, evG, evGs, fSeq2, aft, fNext, fRet, fIf, fAsg, fAsgL, fAsgT, fAsgD, fPar, fWv, fWl, fW0, setWs, wiS, fLit, fVar, Pf.slotAt, varS, fBin, fNeg, negD, fCmp, fChain, fAnd, fOr, fNot, fBool, boolS, fTest, fIte, fAt, fAtD, fCut, fPart, fNoPart, fOs, fOs0, fFn, fVs, fVs0, fTup, fFresh, fDisp, fTupOf, fListOf, fIsi, fCall, fCallW, fVal, fSlotC, isSet, Pf.rs, Pf.rsS, Pf.rsV, rsAll, rsD, keyD, datS, datsS, setS_s, setS_dv, setS_ol, setS_dat, setS_none, setS_olst, setS_rlst, setS_fdic, setS_odic, gN, gT, gs0, gsC, lenIs, binD, addD, subD, mulD, fdivD, modD, cmpD, ordD, isD, isN, isiD, at_l, at_t, fn_lenL, fn_lenT, fn_max2, fn_abs, fn_int, fn_intb, intV, seq_l, seq_t, lstV, fApp, fAugD, fAugI, olS, odS, odH, inS, getElem_s, List.replicate, hc, hfn]
    · simp [evB, evS, evE, evL, evO, evOs, evEs, evT, evTs, evI, evC, evP, evDd, evPs, evWs, evG, evGs, fSeq2, aft, fNext, fRet, fIf, fAsg, fAsgL, fAsgT, fAsgD, fPar, fWv, fWl, fW0, setWs, wiS, fLit, fVar, Pf.slotAt, varS, fBin, fNeg, negD, fCmp, fChain, fAnd, fOr, fNot, fBool, boolS, fTest, fIte, fAt, fAtD, fCut, fPart, fNoPart, fOs, fOs0, fFn, fVs, fVs0, fTup, fFresh, fDisp, fTupOf, fListOf, fIsi, fCall, fCallW, fVal, fSlotC, isSet, Pf.rs, Pf.rsS, Pf.rsV, rsAll, rsD, keyD, datS, datsS, setS_s, setS_dv, setS_ol, setS_dat, setS_none, setS_olst, setS_rlst, setS_fdic, setS_odic, gN, gT, gs0, gsC, lenIs, binD, addD, subD, mulD, fdivD, modD, cmpD, ordD, isD, isN, isiD, at_l, at_t, fn_lenL, fn_lenT, fn_max2, fn_abs, fn_int, fn_intb, intV, seq_l, seq_t, lstV, fApp, fAugD, fAugI, olS, odS, odH, inS, getElem_s, np_is_ascending, h2]
theorem bad_nilD {n : Nat} (hn : n ≤ 63) (l : List D) (f : D → Bool) (h : ∀ x ∈ l, shD n x) : eqD (.list (l.filter fun g => !(f g))) (.list []) = some (l.all f) := by
  cases hz : l.filter fun g => !(f g) with
  | nil =>
    have : l.all f = true := List.all_eq_true.mpr fun x hx => by
      have := List.filter_eq_nil_iff.mp hz x hx
      simpa using this
    rw [this]
    exact eqD_nil
  | cons x zs =>
    have hm : x ∈ l.filter fun g => !(f g) := by rw [hz]; exact List.mem_cons_self
    obtain ⟨m1, m2⟩ := List.mem_filter.mp hm
    have : l.all f = false := Bool.eq_false_iff.mpr fun q => by
      have := List.all_eq_true.mp q x m1
      rw [this] at m2
      cases m2
    rw [this]
    refine eqD_ne_nil (n := n) (fun d hd => ?_) hn
    rw [← hz] at hd
    exact h d (List.mem_filter.mp hd).1
theorem law_is_part_lv {lvm : Nat} (hm0 : 2 ≤ lvm) {d : D} {n : Nat} (hn : n ≤ 20) (h : Nd n d) : ((Y lvm).f 19).2 [.dat d] = some (.bool (isNS d), [.dat d]) := by
  obtain ⟨m, rfl⟩ : ∃ m, lvm = m + 1 := ⟨lvm - 1, by omega⟩
  rw [f__law_is_part]
  have key : (∃ ds, d = .tuple ds ∧ ds.length ≤ 12 ∧ ∀ x ∈ ds, nD x ∧ shD n x) ∨ (isiD .tuple d = some false ∧ isNS d = false) := by
    cases n with
    | zero => rcases h with rfl | ⟨i, rfl⟩ | ⟨b, rfl⟩ | ⟨s, rfl, h⟩ <;> exact .inr ⟨rfl, rfl⟩
    | succ n =>
      rcases h with (rfl | ⟨i, rfl⟩ | ⟨b, rfl⟩ | ⟨s, rfl, h⟩) | ⟨ds, rfl | rfl, hl, hx⟩
      · exact .inr ⟨rfl, rfl⟩
      · exact .inr ⟨rfl, rfl⟩
      · exact .inr ⟨rfl, rfl⟩
      · exact .inr ⟨rfl, rfl⟩
      · exact .inl ⟨ds, rfl, hl, fun x hx' => ⟨(hx x hx').nd, (hx x hx').up.shD⟩⟩
      · exact .inr ⟨rfl, rfl⟩
  rcases key with ⟨ds, rfl, hl, hx⟩ | ⟨k1, k2⟩
  rotate_left
  · rw [k2]
    refine fb_ret (en' := [some (.dat d), none]) rfl (B_ret ?_) rfl
    simp [evS, evB, evT, evTs, fIf, fOr, fNot, fBool, evE, fLit, fSeq2, aft, fRet, datS, boolS, List.replicate, evO, fIsi, fSlotC, isSet, Pf.rs, Pf.rsS, k1]
  have hcomp := comp_map (vs := [1]) (bd := evG (.name 1)) (cond := evC (Y m) c__law_is_part_1c) (elt := evE (Y m) c__law_is_part_1e) (f := fun x : D => x) (g := fun x => x) (p := fun x => !(isF x)) (en := [some (.dat (.tuple ds)), none]) ds fun x hx' => by
    have h1 := law_is_number_lv (lvm := m) (by omega) (hx x hx').1
    refine ⟨[some (.dat (.tuple ds)), some (.dat x)], [some (.dat (.tuple ds)), some (.dat x)], rfl, ?_, ?_⟩
    · cases hi : isI x with
      | true =>
        obtain ⟨i, rfl⟩ : ∃ i, x = .int i := by
          cases x with
          | int i => exact ⟨i, rfl⟩
          | _ => cases hi
        rw [hi] at h1
        by_cases y : i < 0
        · have : ¬ (0 ≤ i) := by omega
          simp [c__law_is_part_1c, evB, evS, evE, evL, evO, evOs, evEs, evT, evTs, evI, evC, evP, evDd, evPs, evWs, evG, evGs, fSeq2, aft, fNext, fRet, fIf, fAsg, fAsgL, fAsgT, fAsgD, fPar, fWv, fWl, fW0, setWs, wiS, fLit, fVar, Pf.slotAt, varS, fBin, fNeg, negD, fCmp, fChain, fAnd, fOr, fNot, fBool, boolS, fTest, fIte, fAt, fAtD, fCut, fPart, fNoPart, fOs, fOs0, fFn, fVs, fVs0, fTup, fFresh, fDisp, fTupOf, fListOf, fIsi, fCall, fCallW, fVal, fSlotC, isSet, Pf.rs, Pf.rsS, Pf.rsV, rsAll, rsD, keyD, datS, datsS, setS_s, setS_dv, setS_ol, setS_dat, setS_none, setS_olst, setS_rlst, setS_fdic, setS_odic, gN, gT, gs0, gsC, lenIs, binD, addD, subD, mulD, fdivD, modD, cmpD, ordD, isD, isN, isiD, at_l, at_t, fn_lenL, fn_lenT, fn_max2, fn_abs, fn_int, fn_intb, intV, seq_l, seq_t, lstV, fApp, fAugD, fAugI, olS, odS, odH, inS, getElem_s, np__law_is_number, h1, isF, y, this]
        · have : 0 ≤ i := by omega
          simp [c__law_is_part_1c, evB, evS, evE, evL, evO, evOs, evEs, evT, evTs, evI, evC, evP, evDd, evPs, evWs, evG, evGs, fSeq2, aft, fNext, fRet, fIf, fAsg, fAsgL, fAsgT, fAsgD, fPar, fWv, fWl, fW0, setWs, wiS, fLit, fVar, Pf.slotAt, varS, fBin, fNeg, negD, fCmp, fChain, fAnd, fOr, fNot, fBool, boolS, fTest, fIte, fAt, fAtD, fCut, fPart, fNoPart, fOs, fOs0, fFn, fVs, fVs0, fTup, fFresh, fDisp, fTupOf, fListOf, fIsi, fCall, fCallW, fVal, fSlotC, isSet, Pf.rs, Pf.rsS, Pf.rsV, rsAll, rsD, keyD, datS, datsS, setS_s, setS_dv, setS_ol, setS_dat, setS_none, setS_olst, setS_rlst, setS_fdic, setS_odic, gN, gT, gs0, gsC, lenIs, binD, addD, subD, mulD, fdivD, modD, cmpD, ordD, isD, isN, isiD, at_l, at_t, fn_lenL, fn_lenT, fn_max2, fn_abs, fn_int, fn_intb, intV, seq_l, seq_t, lstV, fApp, fAugD, fAugI, olS, odS, odH, inS, getElem_s, np__law_is_number, h1, isF, y, this]
      | false =>
        have : isF x = false := by
          cases x with
          | int i => cases hi
          | _ => rfl
        rw [hi] at h1
        simp [c__law_is_part_1c, evB, evS, evE, evL, evO, evOs, evEs, evT, evTs, evI, evC, evP, evDd, evPs, evWs, evG, evGs, fSeq2, aft, fNext, fRet, fIf, fAsg, fAsgL, fAsgT, fAsgD, fPar, fWv, fWl, fW0, setWs, wiS, fLit, fVar, Pf.slotAt, varS, fBin, fNeg, negD, fCmp, fChain, fAnd, fOr, fNot, fBool, boolS, fTest, fIte, fAt, fAtD, fCut, fPart, fNoPart, fOs, fOs0, fFn, fVs, fVs0, fTup, fFresh, fDisp, fTupOf, fListOf, fIsi, fCall, fCallW, fVal, fSlotC, isSet, Pf.rs, Pf.rsS, Pf.rsV, rsAll, rsD, keyD, datS, datsS, setS_s, setS_dv, setS_ol, setS_dat, setS_none, setS_olst, setS_rlst, setS_fdic, setS_odic, gN, gT, gs0, gsC, lenIs, binD, addD, subD, mulD, fdivD, modD, cmpD, ordD, isD, isN, isiD, at_l, at_t, fn_lenL, fn_lenT, fn_max2, fn_abs, fn_int, fn_intb, intV, seq_l, seq_t, lstV, fApp, fAugD, fAugI, olS, odS, odH, inS, getElem_s, np__law_is_number, h1, this]
    · split
      · exact ⟨[some (.dat (.tuple ds)), some (.dat x)], by simp [c__law_is_part_1e, evB, evS, evE, evL, evO, evOs, evEs, evT, evTs, evI, evC, evP, evDd, evPs, evWs, evG, evGs, fSeq2, aft, fNext, fRet, fIf, fAsg, fAsgL, fAsgT, fAsgD, fPar, fWv, fWl, fW0, setWs, wiS, fLit, fVar, Pf.slotAt, varS, fBin, fNeg, negD, fCmp, fChain, fAnd, fOr, fNot, fBool, boolS, fTest, fIte, fAt, fAtD, fCut, fPart, fNoPart, fOs, fOs0, fFn, fVs, fVs0, fTup, fFresh, fDisp, fTupOf, fListOf, fIsi, fCall, fCallW, fVal, fSlotC, isSet, Pf.rs, Pf.rsS, Pf.rsV, rsAll, rsD, keyD, datS, datsS, setS_s, setS_dv, setS_ol, setS_dat, setS_none, setS_olst, setS_rlst, setS_fdic, setS_odic, gN, gT, gs0, gsC, lenIs, binD, addD, subD, mulD, fdivD, modD, cmpD, ordD, isD, isN, isiD, at_l, at_t, fn_lenL, fn_lenT, fn_max2, fn_abs, fn_int, fn_intb, intV, seq_l, seq_t, lstV, fApp, fAugD, fAugI, olS, odS, odH, inS, getElem_s], rfl⟩
      · rfl
  rw [show ds.map (fun x : D => x) = ds from List.map_id _, show ∀ zs : List D, zs.map (fun x : D => x) = zs from fun zs => List.map_id _] at hcomp
  have hc : evL (Y m) c__law_is_part_1 [some (.dat (.tuple ds)), none] = some (ds.filter fun x => !(isF x), [some (.dat (.tuple ds)), none]) := by
    unfold c__law_is_part_1
    refine (comp_ev (ds := ds) (en1 := [some (.dat (.tuple ds)), none]) (en2 := [some (.dat (.tuple ds)), none]) (r := ds.filter fun x => !(isF x)) ?_ ?_ ?_).trans rfl
    · unfold c__law_is_part_1i
      rw [evI]; unfold fSeq
      simp [evB, evS, evE, evL, evO, evOs, evEs, evT, evTs, evI, evC, evP, evDd, evPs, evWs, evG, evGs, fSeq2, aft, fNext, fRet, fIf, fAsg, fAsgL, fAsgT, fAsgD, fPar, fWv, fWl, fW0, setWs, wiS, fLit, fVar, Pf.slotAt, varS, fBin, fNeg, negD, fCmp, fChain, fAnd, fOr, fNot, fBool, boolS, fTest, fIte, fAt, fAtD, fCut, fPart, fNoPart, fOs, fOs0, fFn, fVs, fVs0, fTup, fFresh, fDisp, fTupOf, fListOf, fIsi, fCall, fCallW, fVal, fSlotC, isSet, Pf.rs, Pf.rsS, Pf.rsV, rsAll, rsD, keyD, datS, datsS, setS_s, setS_dv, setS_ol, setS_dat, setS_none, setS_olst, setS_rlst, setS_fdic, setS_odic, gN, gT, gs0, gsC, lenIs, binD, addD, subD, mulD, fdivD, modD, cmpD, ordD, isD, isN, isiD, at_l, at_t, fn_lenL, fn_lenT, fn_max2, fn_abs, fn_int, fn_intb, intV, seq_l, seq_t, lstV, fApp, fAugD, fAugI, olS, odS, odH, inS, getElem_s]
    · unfold lim; omega
    · exact hcomp
  have hall := bad_nilD (by omega) ds isF fun x hx' => (hx x hx').2
  have l0 : (0 : Nat) ≤ lim := by decide
  generalize (ds.filter fun x => !(isF x)) = bs at *
  cases ha : ds.all isF with
  | false =>
    have : isNS (.tuple ds) = false := by
      show (ds.all isF && _) = _
      rw [ha]; rfl
    rw [this]
    rw [ha] at hall
    refine fb_ret (en' := [some (.dat (.tuple ds)), none]) rfl (B_ret ?_) rfl
    simp [evB, evS, evE, evL, evO, evOs, evEs, evT, evTs, evI, evC, evP, evDd, evPs, evWs, evG, evGs, fSeq2, aft, fNext, fRet, fIf, fAsg, fAsgL, fAsgT, fAsgD, fPar, fWv, fWl, fW0, setWs, wiS, fLit, fVar, Pf.slotAt, varS, fBin, fNeg, negD, fCmp, fChain, fAnd, fOr, fNot, fBool, boolS, fTest, fIte, fAt, fAtD, fCut, fPart, fNoPart, fOs, fOs0, fFn, fVs, fVs0, fTup, fFresh, fDisp, fTupOf, fListOf, fIsi, fCall, fCallW, fVal, fSlotC, isSet, Pf.rs, Pf.rsS, Pf.rsV, rsAll, rsD, keyD, datS, datsS, setS_s, setS_dv, setS_ol, setS_dat, setS_none, setS_olst, setS_rlst, setS_fdic, setS_odic, gN, gT, gs0, gsC, lenIs, binD, add_ii, subD, mulD, fdivD, modD, cmpD, ordD, isD, isNn, isNi, isNb, isNt, isNl, isiD, at_l, at_t, fn_lenL, fn_lenT, fn_max2, fn_abs, fn_int, fn_intb, intV, seq_l, seq_t, lstV, fApp, fAugD, fAugI, olS, odS, odH, inS, getElem_s, List.replicate, hc, hall, l0]
  | true =>
    have e1 : isNS (.tuple ds) = decide (ds.map toI = usort (ds.map toI)) := by
      show (ds.all isF && _) = _
      rw [ha]; rfl
    rw [e1]
    rw [ha] at hall
    have e2 := allF_il ha
    have h60 : (ds.map toI).length < 60 := by rw [List.length_map]; omega
    generalize ds.map toI = l at *
    subst e2
    have hi := intsOf_map l
    have he := eqD_il l (usort l)
    unfold il at *
    refine fb_ret (en' := [some (.dat (.tuple (l.map PyData.int))), none]) rfl (B_next (en1 := [some (.dat (.tuple (l.map PyData.int))), none]) ?_ (B_ret ?_)) rfl
    · simp [evB, evS, evE, evL, evO, evOs, evEs, evT, evTs, evI, evC, evP, evDd, evPs, evWs, evG, evGs, fSeq2, aft, fNext, fRet, fIf, fAsg, fAsgL, fAsgT, fAsgD, fPar, fWv, fWl, fW0, setWs, wiS, fLit, fVar, Pf.slotAt, varS, fBin, fNeg, negD, fCmp, fChain, fAnd, fOr, fNot, fBool, boolS, fTest, fIte, fAt, fAtD, fCut, fPart, fNoPart, fOs, fOs0, fFn, fVs, fVs0, fTup, fFresh, fDisp, fTupOf, fListOf, fIsi, fCall, fCallW, fVal, fSlotC, isSet, Pf.rs, Pf.rsS, Pf.rsV, rsAll, rsD, keyD, datS, datsS, setS_s, setS_dv, setS_ol, setS_dat, setS_none, setS_olst, setS_rlst, setS_fdic, setS_odic, gN, gT, gs0, gsC, lenIs, binD, add_ii, subD, mulD, fdivD, modD, cmpD, ordD, isD, isNn, isNi, isNb, isNt, isNl, isiD, at_l, at_t, fn_lenL, fn_lenT, fn_max2, fn_abs, fn_int, fn_intb, intV, seq_l, seq_t, lstV, fApp, fAugD, fAugI, olS, odS, odH, inS, getElem_s, List.replicate, hc, hall, l0]
    · generalize decide (l = usort l) = v at *
      simp [evB, evS, evE, evL, evO, evOs, evEs, evT, evTs, evI, evC, evP, evDd, evPs, evWs, evG, evGs, fSeq2, aft, fNext, fRet, fIf, fAsg, fAsgL, fAsgT, fAsgD, fPar, fWv, fWl, fW0, setWs, wiS, fLit, fVar, Pf.slotAt, varS, fBin, fNeg, negD, fCmp, fChain, fAnd, fOr, fNot, fBool, boolS, fTest, fIte, fAt, fAtD, fCut, fPart, fNoPart, fOs, fOs0, fFn, fVs, fVs0, fTup, fFresh, fDisp, fTupOf, fListOf, fIsi, fCall, fCallW, fVal, fSlotC, isSet, Pf.rs, Pf.rsS, Pf.rsV, rsAll, rsD, keyD, datS, datsS, setS_s, setS_dv, setS_ol, setS_dat, setS_none, setS_olst, setS_rlst, setS_fdic, setS_odic, gN, gT, gs0, gsC, lenIs, binD, add_ii, subD, mulD, fdivD, modD, cmpD, ordD, isD, isNn, isNi, isNb, isNt, isNl, isiD, at_l, at_t, fn_lenL, fn_lenT, fn_max2, fn_abs, fn_int, fn_intb, intV, seq_l, seq_t, lstV, fApp, fAugD, fAugI, olS, odS, odH, inS, getElem_s, fSortSet, tupV, hi, h60, he]


end K26

set_option maxHeartbeats 4000000
namespace K26
open PySem L2 Pf
/-! ### rules -/
def allR (R : D → Bool) : D → Bool
  | .tuple rs => rs.all R
  | _ => false
def lnT : D → Int
  | .tuple rs => (rs.length : Int)
  | _ => 0
def isRg (R : D → Bool) (L : Int) (a x b : D) : Bool :=
  if isS "course" a = true then decide (L = 2) && isF x
  else if isS "points" a = true then decide (L = 3) && (isF x && isNS b)
  else if isS "all" a = true then decide (L = 2) && allR R b
  else if isS "of" a = true then decide (L = 3) && (allR R b && (isF x && decide (toI x ≤ lnT b)))
  else false
def isR : Nat → D → Bool
  | 0, _ => false
  | n + 1, .tuple [a, b] => isRg (isR n) 2 a b b
  | n + 1, .tuple [a, b, c] => isRg (isR n) 3 a b c
  | _ + 1, _ => false
theorem shp_s1 : shp (.str "course") = true := by decide +kernel
theorem shp_s2 : shp (.str "points") = true := by decide +kernel
theorem shp_s3 : shp (.str "all") = true := by decide +kernel
theorem shp_s4 : shp (.str "of") = true := by decide +kernel
theorem isS_eq {s : Str} {a : D} (h : isS s a = true) : a = .str s := by
  cases a with
  | str x => rw [show x = s from eq_of_beq h]
  | _ => cases h
theorem cls (a : D) : (isS "course" a = true ∧ isS "points" a = false ∧ isS "all" a = false ∧ isS "of" a = false) ∨ (isS "course" a = false ∧ isS "points" a = true ∧ isS "all" a = false ∧ isS "of" a = false) ∨
    (isS "course" a = false ∧ isS "points" a = false ∧ isS "all" a = true ∧ isS "of" a = false) ∨ (isS "course" a = false ∧ isS "points" a = false ∧ isS "all" a = false ∧ isS "of" a = true) ∨ (isS "course" a = false ∧ isS "points" a = false ∧ isS "all" a = false ∧ isS "of" a = false) := by
  cases h1 : isS "course" a with
  | true =>
    have := isS_eq h1
    subst this
    exact .inl (by decide)
  | false =>
    cases h2 : isS "points" a with
    | true =>
      have := isS_eq h2
      subst this
      exact .inr (.inl (by decide))
    | false =>
      cases h3 : isS "all" a with
      | true =>
        have := isS_eq h3
        subst this
        exact .inr (.inr (.inl (by decide)))
      | false =>
        cases h4 : isS "of" a with
        | true => exact .inr (.inr (.inr (.inl ⟨rfl, rfl, rfl, rfl⟩)))
        | false => exact .inr (.inr (.inr (.inr ⟨rfl, rfl, rfl, rfl⟩)))
theorem inD_S2 {a : D} (ha : shp a = true) : inD a (.tuple [.str "all", .str "of"]) = some (isS "all" a || isS "of" a) := by
  show (if _ then _ else _) = _
  rw [if_pos ⟨ha, by decide +kernel⟩]
  congr 1
  have e : ∀ s : Str, PyData.eqv (.str s) a = isS s a := fun s => by
    cases a with
    | str x =>
      show (s == x) = (x == s)
      by_cases h : s = x
      · subst h; rfl
      · rw [beq_eq_false_iff_ne.mpr h, beq_eq_false_iff_ne.mpr (fun z => h z.symm)]
    | _ => rfl
  simp [e]
theorem inD_23 (L : Int) : inD (.int L) (.tuple [.int 2, .int 3]) = some (decide (L = 2 ∨ L = 3)) := by
  have := inD_tl L [2, 3]
  rw [show decide (L ∈ [2, 3]) = decide (L = 2 ∨ L = 3) from decide_eq_decide.mpr (by simp)] at this
  exact this
/-- what a place of a rule holds: a tuple or not -/
theorem Nd.tup {n : Nat} {d : D} (h : Nd (n + 1) d) : (∃ ds, d = .tuple ds ∧ ds.length ≤ 12 ∧ ∀ x ∈ ds, Nd n x) ∨ (isiD .tuple d = some false ∧ ∀ R, allR R d = false) := by
  rcases h with (rfl | ⟨i, rfl⟩ | ⟨b, rfl⟩ | ⟨s, rfl, h⟩) | ⟨ds, rfl | rfl, hl, hx⟩
  · exact .inr ⟨rfl, fun _ => rfl⟩
  · exact .inr ⟨rfl, fun _ => rfl⟩
  · exact .inr ⟨rfl, fun _ => rfl⟩
  · exact .inr ⟨rfl, fun _ => rfl⟩
  · exact .inl ⟨ds, rfl, hl, hx⟩
  · exact .inr ⟨rfl, fun _ => rfl⟩
theorem Nd.tup' {n : Nat} {d : D} (h : Nd n d) : (∃ ds, d = .tuple ds ∧ ds.length ≤ 12 ∧ ∀ x ∈ ds, Nd n x) ∨ (isiD .tuple d = some false ∧ ∀ R, allR R d = false) := by
  rcases h.up.tup with h | h
  · exact .inl h
  · exact .inr h
theorem ir_comp {m n : Nat} {d : D} {rs : List D} (hb : atD d (.int (-1)) = some (.tuple rs)) (hl : rs.length ≤ 12) (hr : ∀ x ∈ rs, ((Y m).f 7).2 [.dat x] = some (.bool (isR n x), [.dat x])) : evL (Y m) c_is_rule_1 [some (.dat d), none] = some ((rs.map (isR n)).map PyData.bool, [some (.dat d), none]) := by
  have hcomp := comp_map (vs := [1]) (bd := evG (.name 1)) (cond := evC (Y m) c_is_rule_1c) (elt := evE (Y m) c_is_rule_1e) (f := fun x : D => x) (g := fun x => PyData.bool (isR n x)) (p := fun _ => true) (en := [some (.dat d), none]) rs fun x hx' => by
    have h1 := hr x hx'
    refine ⟨[some (.dat d), some (.dat x)], [some (.dat d), some (.dat x)], rfl, rfl, ?_⟩
    rw [if_pos rfl]
    refine ⟨[some (.dat d), some (.dat x)], ?_, rfl⟩
    simp [c_is_rule_1e, evB, evS, evE, evL, evO, evOs, evEs, evT, evTs, evI, evC, evP, evDd, evPs, evWs, evG, evGs, fSeq2, aft, fNext, fRet, fIf, fAsg, fAsgL, fAsgT, fAsgD, fPar, fWv, fWl, fW0, setWs, wiS, fLit, fVar, Pf.slotAt, varS, fBin, fNeg, negD, fCmp, fChain, fAnd, fOr, fNot, fBool, boolS, fTest, fIte, fAt, fAtD, fCut, fPart, fNoPart, fOs, fOs0, fFn, fVs, fVs0, fTup, fFresh, fDisp, fTupOf, fListOf, fIsi, fCall, fCallW, fVal, fSlotC, isSet, Pf.rs, Pf.rsS, Pf.rsV, rsAll, rsD, keyD, datS, datsS, setS_s, setS_dv, setS_ol, setS_dat, setS_none, setS_olst, setS_rlst, setS_fdic, setS_odic, gN, gT, gs0, gsC, lenIs, binD, addD, subD, mulD, fdivD, modD, cmpD, ordD, isD, isN, isiD, at_l, at_t, fn_lenL, fn_lenT, fn_max2, fn_abs, fn_int, fn_intb, intV, seq_l, seq_t, lstV, fApp, fAugD, fAugI, olS, odS, odH, inS, getElem_s, np_is_rule, h1]
  rw [List.filter_eq_self.mpr fun _ _ => rfl, show rs.map (fun x : D => x) = rs from List.map_id _] at hcomp
  unfold c_is_rule_1
  refine (comp_ev (ds := rs) (en1 := [some (.dat d), none]) (en2 := [some (.dat d), none]) (r := (rs.map (isR n)).map PyData.bool) ?_ ?_ ?_).trans rfl
  · unfold c_is_rule_1i
    rw [evI]; unfold fSeq
    simp [evB, evS, evE, evL, evO, evOs, evEs, evT, evTs, evI, evC, evP, evDd, evPs, evWs, evG, evGs, fSeq2, aft, fNext, fRet, fIf, fAsg, fAsgL, fAsgT, fAsgD, fPar, fWv, fWl, fW0, setWs, wiS, fLit, fVar, Pf.slotAt, varS, fBin, fNeg, negD, fCmp, fChain, fAnd, fOr, fNot, fBool, boolS, fTest, fIte, fAt, fAtD, fCut, fPart, fNoPart, fOs, fOs0, fFn, fVs, fVs0, fTup, fFresh, fDisp, fTupOf, fListOf, fIsi, fCall, fCallW, fVal, fSlotC, isSet, Pf.rs, Pf.rsS, Pf.rsV, rsAll, rsD, keyD, datS, datsS, setS_s, setS_dv, setS_ol, setS_dat, setS_none, setS_olst, setS_rlst, setS_fdic, setS_odic, gN, gT, gs0, gsC, lenIs, binD, addD, subD, mulD, fdivD, modD, cmpD, ordD, isD, isN, isiD, at_l, at_t, fn_lenL, fn_lenT, fn_max2, fn_abs, fn_int, fn_intb, intV, seq_l, seq_t, lstV, fApp, fAugD, fAugI, olS, odS, odH, inS, getElem_s, hb]
  · unfold lim; omega
  · rw [List.map_map]; exact hcomp
theorem isi_tt (rs : List D) : isiD .tuple (.tuple rs) = some true := rfl
theorem is_rule_gen {m n : Nat} (hm : 4 ≤ m) {d a x b : D} {L : Int} (ht : isiD .tuple d = some true) (hL : L = 2 ∨ L = 3) (hlen : fnD .len [d] = some (.int L)) (sa : shp a = true) (h0 : atD d (.int 0) = some a) (h1 : atD d (.int 1) = some x) (hb : atD d (.int (-1)) = some b) (h2 : L = 3 → atD d (.int 2) = some b)
    (hx : nD x) {q : Nat} (hq : Nd q b) (hr : ∀ rs, b = .tuple rs → ∀ y ∈ rs, ((Y m).f 7).2 [.dat y] = some (.bool (isR n y), [.dat y])) :
    evB (Y m) b_is_rule [some (.dat d), none] = some (.ret (.bool (isRg (isR n) L a x b)), [some (.dat d), none]) := by
  have l2 : (2 : Nat) ≤ lim := by decide
  have eC := eqD_S sa shp_s1
  have eP := eqD_S sa shp_s2
  have eA := eqD_S sa shp_s3
  have eI := inD_S2 sa
  have e23 := inD_23 L
  rw [decide_eq_true hL] at e23
  have eL2 := eqD_int L 2
  have eL3 := eqD_int L 3
  have cF := is_from_lv (lvm := m) (by omega) hx
  have cS := is_number_set_lv (lvm := m) (by omega) hq
  have kF : isF x = true → x = .int (toI x) := fun z => by
    obtain ⟨i, rfl, _⟩ := isF_int z
    rfl
  have tb := hq.tup'
  -- the rules within
  have inner : (∃ rs bs, b = .tuple rs ∧ evL (Y m) c_is_rule_1 [some (.dat d), none] = some (bs, [some (.dat d), none]) ∧ fnD .all [.list bs] = some (.bool (allR (isR n) b))) ∨ (isiD .tuple b = some false ∧ allR (isR n) b = false) := by
    rcases tb with ⟨rs, rfl, hl, _⟩ | ⟨t1, t2⟩
    · refine .inl ⟨rs, _, rfl, ir_comp hb hl (hr rs rfl), ?_⟩
      rw [fn_all, List.all_map]
      rfl
    · exact .inr ⟨t1, t2 _⟩
  unfold isRg
  rcases cls a with ⟨k1, k2, k3, k4⟩ | ⟨k1, k2, k3, k4⟩ | ⟨k1, k2, k3, k4⟩ | ⟨k1, k2, k3, k4⟩ | ⟨k1, k2, k3, k4⟩
  · rw [k1] at eC
    rw [k1, if_pos rfl]
    rcases hL with rfl | rfl
    · simp [b_is_rule, evB, evS, evE, evL, evO, evOs, evEs, evT, evTs, evI, evC, evP, evDd, evPs, evWs, evG, evGs, fSeq2, aft, fNext, fRet, fIf, fAsg, fAsgL, fAsgT, fAsgD, fPar, fWv, fWl, fW0, setWs, wiS, fLit, fVar, Pf.slotAt, varS, fBin, fNeg, negD, fCmp, fChain, fAnd, fOr, fNot, fBool, boolS, fTest, fIte, fAt, fAtD, fCut, fPart, fNoPart, fOs, fOs0, fFn, fVs, fVs0, fTup, fFresh, fDisp, fTupOf, fListOf, fIsi, fCall, fCallW, fVal, fSlotC, isSet, Pf.rs, Pf.rsS, Pf.rsV, rsAll, rsD, keyD, datS, datsS, setS_s, setS_dv, setS_ol, setS_dat, setS_none, setS_olst, setS_rlst, setS_fdic, setS_odic, gN, gT, gs0, gsC, lenIs, binD, add_ii, subD, mulD, fdivD, modD, cmpD, ordD, isD, isNn, isNi, isNb, isNt, isNl, at_l, at_t, fn_lenL, fn_lenT, fn_max2, fn_abs, fn_int, fn_intb, intV, seq_l, seq_t, lstV, fApp, fAugD, fAugI, olS, odS, odH, inS, getElem_s, ht, hlen, e23, h0, h1, eC, eL2, l2, np_is_from, cF]
    · simp [b_is_rule, evB, evS, evE, evL, evO, evOs, evEs, evT, evTs, evI, evC, evP, evDd, evPs, evWs, evG, evGs, fSeq2, aft, fNext, fRet, fIf, fAsg, fAsgL, fAsgT, fAsgD, fPar, fWv, fWl, fW0, setWs, wiS, fLit, fVar, Pf.slotAt, varS, fBin, fNeg, negD, fCmp, fChain, fAnd, fOr, fNot, fBool, boolS, fTest, fIte, fAt, fAtD, fCut, fPart, fNoPart, fOs, fOs0, fFn, fVs, fVs0, fTup, fFresh, fDisp, fTupOf, fListOf, fIsi, fCall, fCallW, fVal, fSlotC, isSet, Pf.rs, Pf.rsS, Pf.rsV, rsAll, rsD, keyD, datS, datsS, setS_s, setS_dv, setS_ol, setS_dat, setS_none, setS_olst, setS_rlst, setS_fdic, setS_odic, gN, gT, gs0, gsC, lenIs, binD, add_ii, subD, mulD, fdivD, modD, cmpD, ordD, isD, isNn, isNi, isNb, isNt, isNl, at_l, at_t, fn_lenL, fn_lenT, fn_max2, fn_abs, fn_int, fn_intb, intV, seq_l, seq_t, lstV, fApp, fAugD, fAugI, olS, odS, odH, inS, getElem_s, ht, hlen, e23, h0, h1, eC, eL2, l2, np_is_from, cF]
  · rw [k1] at eC
    rw [k2] at eP
    rw [k1, if_neg (by decide), k2, if_pos rfl]
    rcases hL with rfl | rfl
    · simp [b_is_rule, evB, evS, evE, evL, evO, evOs, evEs, evT, evTs, evI, evC, evP, evDd, evPs, evWs, evG, evGs, fSeq2, aft, fNext, fRet, fIf, fAsg, fAsgL, fAsgT, fAsgD, fPar, fWv, fWl, fW0, setWs, wiS, fLit, fVar, Pf.slotAt, varS, fBin, fNeg, negD, fCmp, fChain, fAnd, fOr, fNot, fBool, boolS, fTest, fIte, fAt, fAtD, fCut, fPart, fNoPart, fOs, fOs0, fFn, fVs, fVs0, fTup, fFresh, fDisp, fTupOf, fListOf, fIsi, fCall, fCallW, fVal, fSlotC, isSet, Pf.rs, Pf.rsS, Pf.rsV, rsAll, rsD, keyD, datS, datsS, setS_s, setS_dv, setS_ol, setS_dat, setS_none, setS_olst, setS_rlst, setS_fdic, setS_odic, gN, gT, gs0, gsC, lenIs, binD, add_ii, subD, mulD, fdivD, modD, cmpD, ordD, isD, isNn, isNi, isNb, isNt, isNl, at_l, at_t, fn_lenL, fn_lenT, fn_max2, fn_abs, fn_int, fn_intb, intV, seq_l, seq_t, lstV, fApp, fAugD, fAugI, olS, odS, odH, inS, getElem_s, ht, hlen, e23, h0, h1, eC, eP, eL3, l2, np_is_from, cF]
    · have h2 := h2 rfl
      cases hf : isF x <;> rw [hf] at cF <;> simp [b_is_rule, evB, evS, evE, evL, evO, evOs, evEs, evT, evTs, evI, evC, evP, evDd, evPs, evWs, evG, evGs, fSeq2, aft, fNext, fRet, fIf, fAsg, fAsgL, fAsgT, fAsgD, fPar, fWv, fWl, fW0, setWs, wiS, fLit, fVar, Pf.slotAt, varS, fBin, fNeg, negD, fCmp, fChain, fAnd, fOr, fNot, fBool, boolS, fTest, fIte, fAt, fAtD, fCut, fPart, fNoPart, fOs, fOs0, fFn, fVs, fVs0, fTup, fFresh, fDisp, fTupOf, fListOf, fIsi, fCall, fCallW, fVal, fSlotC, isSet, Pf.rs, Pf.rsS, Pf.rsV, rsAll, rsD, keyD, datS, datsS, setS_s, setS_dv, setS_ol, setS_dat, setS_none, setS_olst, setS_rlst, setS_fdic, setS_odic, gN, gT, gs0, gsC, lenIs, binD, add_ii, subD, mulD, fdivD, modD, cmpD, ordD, isD, isNn, isNi, isNb, isNt, isNl, at_l, at_t, fn_lenL, fn_lenT, fn_max2, fn_abs, fn_int, fn_intb, intV, seq_l, seq_t, lstV, fApp, fAugD, fAugI, olS, odS, odH, inS, getElem_s, ht, hlen, e23, h0, h1, h2, eC, eP, eL3, l2, np_is_from, cF, np_is_number_set, cS]
  · rw [k1] at eC
    rw [k2] at eP
    rw [k3] at eA
    rw [k3, k4] at eI
    rw [k1, if_neg (by decide), k2, if_neg (by decide), k3, if_pos rfl]
    rcases hL with rfl | rfl
    · rcases inner with ⟨rs, bs, rfl, i1, i2⟩ | ⟨i1, i2⟩
      · have it : isiD .tuple (.tuple rs) = some true := rfl
        cases hz : allR (isR n) (.tuple rs) <;> rw [hz] at i2 <;> simp [b_is_rule, evB, evS, evE, evL, evO, evOs, evEs, evT, evTs, evI, evC, evP, evDd, evPs, evWs, evG, evGs, fSeq2, aft, fNext, fRet, fIf, fAsg, fAsgL, fAsgT, fAsgD, fPar, fWv, fWl, fW0, setWs, wiS, fLit, fVar, Pf.slotAt, varS, fBin, fNeg, negD, fCmp, fChain, fAnd, fOr, fNot, fBool, boolS, fTest, fIte, fAt, fAtD, fCut, fPart, fNoPart, fOs, fOs0, fFn, fVs, fVs0, fTup, fFresh, fDisp, fTupOf, fListOf, fIsi, fCall, fCallW, fVal, fSlotC, isSet, Pf.rs, Pf.rsS, Pf.rsV, rsAll, rsD, keyD, datS, datsS, setS_s, setS_dv, setS_ol, setS_dat, setS_none, setS_olst, setS_rlst, setS_fdic, setS_odic, gN, gT, gs0, gsC, lenIs, binD, add_ii, subD, mulD, fdivD, modD, cmpD, ordD, isD, isNn, isNi, isNb, isNt, isNl, at_l, at_t, fn_lenL, fn_lenT, fn_max2, fn_abs, fn_int, fn_intb, intV, seq_l, seq_t, lstV, fApp, fAugD, fAugI, olS, odS, odH, inS, getElem_s, ht, hlen, e23, h0, h1, eC, eP, eI, eA, eL2, eL3, l2, negD, hb, i1, i2, hz, isi_tt]
      · rw [i2]
        simp [b_is_rule, evB, evS, evE, evL, evO, evOs, evEs, evT, evTs, evI, evC, evP, evDd, evPs, evWs, evG, evGs, fSeq2, aft, fNext, fRet, fIf, fAsg, fAsgL, fAsgT, fAsgD, fPar, fWv, fWl, fW0, setWs, wiS, fLit, fVar, Pf.slotAt, varS, fBin, fNeg, negD, fCmp, fChain, fAnd, fOr, fNot, fBool, boolS, fTest, fIte, fAt, fAtD, fCut, fPart, fNoPart, fOs, fOs0, fFn, fVs, fVs0, fTup, fFresh, fDisp, fTupOf, fListOf, fIsi, fCall, fCallW, fVal, fSlotC, isSet, Pf.rs, Pf.rsS, Pf.rsV, rsAll, rsD, keyD, datS, datsS, setS_s, setS_dv, setS_ol, setS_dat, setS_none, setS_olst, setS_rlst, setS_fdic, setS_odic, gN, gT, gs0, gsC, lenIs, binD, add_ii, subD, mulD, fdivD, modD, cmpD, ordD, isD, isNn, isNi, isNb, isNt, isNl, at_l, at_t, fn_lenL, fn_lenT, fn_max2, fn_abs, fn_int, fn_intb, intV, seq_l, seq_t, lstV, fApp, fAugD, fAugI, olS, odS, odH, inS, getElem_s, ht, hlen, e23, h0, h1, eC, eP, eI, eA, eL2, eL3, l2, negD, hb, i1]
    · simp [b_is_rule, evB, evS, evE, evL, evO, evOs, evEs, evT, evTs, evI, evC, evP, evDd, evPs, evWs, evG, evGs, fSeq2, aft, fNext, fRet, fIf, fAsg, fAsgL, fAsgT, fAsgD, fPar, fWv, fWl, fW0, setWs, wiS, fLit, fVar, Pf.slotAt, varS, fBin, fNeg, negD, fCmp, fChain, fAnd, fOr, fNot, fBool, boolS, fTest, fIte, fAt, fAtD, fCut, fPart, fNoPart, fOs, fOs0, fFn, fVs, fVs0, fTup, fFresh, fDisp, fTupOf, fListOf, fIsi, fCall, fCallW, fVal, fSlotC, isSet, Pf.rs, Pf.rsS, Pf.rsV, rsAll, rsD, keyD, datS, datsS, setS_s, setS_dv, setS_ol, setS_dat, setS_none, setS_olst, setS_rlst, setS_fdic, setS_odic, gN, gT, gs0, gsC, lenIs, binD, add_ii, subD, mulD, fdivD, modD, cmpD, ordD, isD, isNn, isNi, isNb, isNt, isNl, at_l, at_t, fn_lenL, fn_lenT, fn_max2, fn_abs, fn_int, fn_intb, intV, seq_l, seq_t, lstV, fApp, fAugD, fAugI, olS, odS, odH, inS, getElem_s, ht, hlen, e23, h0, h1, eC, eP, eI, eA, eL2, eL3, l2]
  · rw [k1] at eC
    rw [k2] at eP
    rw [k3] at eA
    rw [k3, k4] at eI
    rw [k1, if_neg (by decide), k2, if_neg (by decide), k3, if_neg (by decide), k4, if_pos rfl]
    rcases hL with rfl | rfl
    · simp [b_is_rule, evB, evS, evE, evL, evO, evOs, evEs, evT, evTs, evI, evC, evP, evDd, evPs, evWs, evG, evGs, fSeq2, aft, fNext, fRet, fIf, fAsg, fAsgL, fAsgT, fAsgD, fPar, fWv, fWl, fW0, setWs, wiS, fLit, fVar, Pf.slotAt, varS, fBin, fNeg, negD, fCmp, fChain, fAnd, fOr, fNot, fBool, boolS, fTest, fIte, fAt, fAtD, fCut, fPart, fNoPart, fOs, fOs0, fFn, fVs, fVs0, fTup, fFresh, fDisp, fTupOf, fListOf, fIsi, fCall, fCallW, fVal, fSlotC, isSet, Pf.rs, Pf.rsS, Pf.rsV, rsAll, rsD, keyD, datS, datsS, setS_s, setS_dv, setS_ol, setS_dat, setS_none, setS_olst, setS_rlst, setS_fdic, setS_odic, gN, gT, gs0, gsC, lenIs, binD, add_ii, subD, mulD, fdivD, modD, cmpD, ordD, isD, isNn, isNi, isNb, isNt, isNl, at_l, at_t, fn_lenL, fn_lenT, fn_max2, fn_abs, fn_int, fn_intb, intV, seq_l, seq_t, lstV, fApp, fAugD, fAugI, olS, odS, odH, inS, getElem_s, ht, hlen, e23, h0, h1, eC, eP, eI, eA, eL2, eL3, l2]
    · have h2 := h2 rfl
      rcases inner with ⟨rs, bs, rfl, i1, i2⟩ | ⟨i1, i2⟩
      · cases hz : allR (isR n) (.tuple rs) with
        | false =>
          rw [hz] at i2
          simp [b_is_rule, evB, evS, evE, evL, evO, evOs, evEs, evT, evTs, evI, evC, evP, evDd, evPs, evWs, evG, evGs, fSeq2, aft, fNext, fRet, fIf, fAsg, fAsgL, fAsgT, fAsgD, fPar, fWv, fWl, fW0, setWs, wiS, fLit, fVar, Pf.slotAt, varS, fBin, fNeg, negD, fCmp, fChain, fAnd, fOr, fNot, fBool, boolS, fTest, fIte, fAt, fAtD, fCut, fPart, fNoPart, fOs, fOs0, fFn, fVs, fVs0, fTup, fFresh, fDisp, fTupOf, fListOf, fIsi, fCall, fCallW, fVal, fSlotC, isSet, Pf.rs, Pf.rsS, Pf.rsV, rsAll, rsD, keyD, datS, datsS, setS_s, setS_dv, setS_ol, setS_dat, setS_none, setS_olst, setS_rlst, setS_fdic, setS_odic, gN, gT, gs0, gsC, lenIs, binD, add_ii, subD, mulD, fdivD, modD, cmpD, ordD, isD, isNn, isNi, isNb, isNt, isNl, at_l, at_t, fn_lenL, fn_lenT, fn_max2, fn_abs, fn_int, fn_intb, intV, seq_l, seq_t, lstV, fApp, fAugD, fAugI, olS, odS, odH, inS, getElem_s, ht, hlen, e23, h0, h1, eC, eP, eI, eA, eL2, eL3, l2, negD, hb, i1, i2, hz, isi_tt]
        | true =>
          rw [hz] at i2
          cases hf : isF x with
          | false =>
            rw [hf] at cF
            simp [b_is_rule, evB, evS, evE, evL, evO, evOs, evEs, evT, evTs, evI, evC, evP, evDd, evPs, evWs, evG, evGs, fSeq2, aft, fNext, fRet, fIf, fAsg, fAsgL, fAsgT, fAsgD, fPar, fWv, fWl, fW0, setWs, wiS, fLit, fVar, Pf.slotAt, varS, fBin, fNeg, negD, fCmp, fChain, fAnd, fOr, fNot, fBool, boolS, fTest, fIte, fAt, fAtD, fCut, fPart, fNoPart, fOs, fOs0, fFn, fVs, fVs0, fTup, fFresh, fDisp, fTupOf, fListOf, fIsi, fCall, fCallW, fVal, fSlotC, isSet, Pf.rs, Pf.rsS, Pf.rsV, rsAll, rsD, keyD, datS, datsS, setS_s, setS_dv, setS_ol, setS_dat, setS_none, setS_olst, setS_rlst, setS_fdic, setS_odic, gN, gT, gs0, gsC, lenIs, binD, add_ii, subD, mulD, fdivD, modD, cmpD, ordD, isD, isNn, isNi, isNb, isNt, isNl, at_l, at_t, fn_lenL, fn_lenT, fn_max2, fn_abs, fn_int, fn_intb, intV, seq_l, seq_t, lstV, fApp, fAugD, fAugI, olS, odS, odH, inS, getElem_s, ht, hlen, e23, h0, h1, h2, eC, eP, eI, eA, eL2, eL3, l2, negD, hb, i1, i2, hz, isi_tt, np_is_from, cF]
          | true =>
            have kx := kF hf
            rw [hf] at cF
            generalize toI x = i at *
            subst kx
            simp [b_is_rule, evB, evS, evE, evL, evO, evOs, evEs, evT, evTs, evI, evC, evP, evDd, evPs, evWs, evG, evGs, fSeq2, aft, fNext, fRet, fIf, fAsg, fAsgL, fAsgT, fAsgD, fPar, fWv, fWl, fW0, setWs, wiS, fLit, fVar, Pf.slotAt, varS, fBin, fNeg, negD, fCmp, fChain, fAnd, fOr, fNot, fBool, boolS, fTest, fIte, fAt, fAtD, fCut, fPart, fNoPart, fOs, fOs0, fFn, fVs, fVs0, fTup, fFresh, fDisp, fTupOf, fListOf, fIsi, fCall, fCallW, fVal, fSlotC, isSet, Pf.rs, Pf.rsS, Pf.rsV, rsAll, rsD, keyD, datS, datsS, setS_s, setS_dv, setS_ol, setS_dat, setS_none, setS_olst, setS_rlst, setS_fdic, setS_odic, gN, gT, gs0, gsC, lenIs, binD, add_ii, subD, mulD, fdivD, modD, cmpD, ordD, isD, isNn, isNi, isNb, isNt, isNl, at_l, at_t, fn_lenL, fn_lenT, fn_max2, fn_abs, fn_int, fn_intb, intV, seq_l, seq_t, lstV, fApp, fAugD, fAugI, olS, odS, odH, inS, getElem_s, ht, hlen, e23, h0, h1, h2, eC, eP, eI, eA, eL2, eL3, l2, negD, hb, i1, i2, hz, isi_tt, np_is_from, cF, lnT]
            exact decide_eq_decide.mpr Iff.rfl
      · rw [i2]
        simp [b_is_rule, evB, evS, evE, evL, evO, evOs, evEs, evT, evTs, evI, evC, evP, evDd, evPs, evWs, evG, evGs, fSeq2, aft, fNext, fRet, fIf, fAsg, fAsgL, fAsgT, fAsgD, fPar, fWv, fWl, fW0, setWs, wiS, fLit, fVar, Pf.slotAt, varS, fBin, fNeg, negD, fCmp, fChain, fAnd, fOr, fNot, fBool, boolS, fTest, fIte, fAt, fAtD, fCut, fPart, fNoPart, fOs, fOs0, fFn, fVs, fVs0, fTup, fFresh, fDisp, fTupOf, fListOf, fIsi, fCall, fCallW, fVal, fSlotC, isSet, Pf.rs, Pf.rsS, Pf.rsV, rsAll, rsD, keyD, datS, datsS, setS_s, setS_dv, setS_ol, setS_dat, setS_none, setS_olst, setS_rlst, setS_fdic, setS_odic, gN, gT, gs0, gsC, lenIs, binD, add_ii, subD, mulD, fdivD, modD, cmpD, ordD, isD, isNn, isNi, isNb, isNt, isNl, at_l, at_t, fn_lenL, fn_lenT, fn_max2, fn_abs, fn_int, fn_intb, intV, seq_l, seq_t, lstV, fApp, fAugD, fAugI, olS, odS, odH, inS, getElem_s, ht, hlen, e23, h0, h1, eC, eP, eI, eA, eL2, eL3, l2, negD, hb, i1]
  · rw [k1] at eC
    rw [k2] at eP
    rw [k3, k4] at eI
    rw [k1, if_neg (by decide), k2, if_neg (by decide), k3, if_neg (by decide), k4, if_neg (by decide)]
    simp [b_is_rule, evB, evS, evE, evL, evO, evOs, evEs, evT, evTs, evI, evC, evP, evDd, evPs, evWs, evG, evGs, fSeq2, aft, fNext, fRet, fIf, fAsg, fAsgL, fAsgT, fAsgD, fPar, fWv, fWl, fW0, setWs, wiS, fLit, fVar, Pf.slotAt, varS, fBin, fNeg, negD, fCmp, fChain, fAnd, fOr, fNot, fBool, boolS, fTest, fIte, fAt, fAtD, fCut, fPart, fNoPart, fOs, fOs0, fFn, fVs, fVs0, fTup, fFresh, fDisp, fTupOf, fListOf, fIsi, fCall, fCallW, fVal, fSlotC, isSet, Pf.rs, Pf.rsS, Pf.rsV, rsAll, rsD, keyD, datS, datsS, setS_s, setS_dv, setS_ol, setS_dat, setS_none, setS_olst, setS_rlst, setS_fdic, setS_odic, gN, gT, gs0, gsC, lenIs, binD, add_ii, subD, mulD, fdivD, modD, cmpD, ordD, isD, isNn, isNi, isNb, isNt, isNl, at_l, at_t, fn_lenL, fn_lenT, fn_max2, fn_abs, fn_int, fn_intb, intV, seq_l, seq_t, lstV, fApp, fAugD, fAugI, olS, odS, odH, inS, getElem_s, ht, hlen, e23, h0, h1, eC, eP, eI, l2]
theorem is_rule_lv : ∀ {n lvm : Nat} (hn : n ≤ 40) (hm0 : n + 5 ≤ lvm) {d : D} (h : Nd n d), ((Y lvm).f 7).2 [.dat d] = some (.bool (isR n d), [.dat d])
  | n, lvm, hn, hm0, d, h => by
    obtain ⟨m, rfl⟩ : ∃ m, lvm = m + 1 := ⟨lvm - 1, by omega⟩
    rw [f_is_rule]
    have flat : isiD .tuple d = some false → ((fBody 1 2 (evB (Y m) b_is_rule)) [.dat d] = some (.bool false, [.dat d])) := fun k1 => by
      refine fb_ret (en' := [some (.dat d), none]) rfl (B_ret ?_) rfl
      simp [evS, evB, evT, evTs, fIf, fOr, fNot, fBool, evE, fLit, fSeq2, aft, fRet, datS, boolS, List.replicate, evO, fIsi, fSlotC, isSet, Pf.rs, Pf.rsS, k1]
    cases n with
    | zero =>
      show _ = some (PyData.bool false, _)
      refine flat ?_
      rcases h with rfl | ⟨i, rfl⟩ | ⟨b, rfl⟩ | ⟨s, rfl, h⟩ <;> rfl
    | succ n =>
      rcases h with h | ⟨ds, rfl | rfl, hl, hx⟩
      · have e : isR (n + 1) d = false := by rcases h with rfl | ⟨i, rfl⟩ | ⟨b, rfl⟩ | ⟨s, rfl, h⟩ <;> rfl
        rw [e]
        refine flat ?_
        rcases h with rfl | ⟨i, rfl⟩ | ⟨b, rfl⟩ | ⟨s, rfl, h⟩ <;> rfl
      · have other : ∀ ds : List D, (ds.length : Int) ≠ 2 → (ds.length : Int) ≠ 3 → ((fBody 1 2 (evB (Y m) b_is_rule)) [.dat (.tuple ds)] = some (.bool false, [.dat (.tuple ds)])) := fun ds z2 z3 => by
          have e23 := inD_23 (ds.length : Int)
          rw [decide_eq_false (by omega)] at e23
          have l2 : (2 : Nat) ≤ lim := by decide
          refine fb_ret (en' := [some (.dat (.tuple ds)), none]) rfl (B_ret ?_) rfl
          simp [evB, evS, evE, evL, evO, evOs, evEs, evT, evTs, evI, evC, evP, evDd, evPs, evWs, evG, evGs, fSeq2, aft, fNext, fRet, fIf, fAsg, fAsgL, fAsgT, fAsgD, fPar, fWv, fWl, fW0, setWs, wiS, fLit, fVar, Pf.slotAt, varS, fBin, fNeg, negD, fCmp, fChain, fAnd, fOr, fNot, fBool, boolS, fTest, fIte, fAt, fAtD, fCut, fPart, fNoPart, fOs, fOs0, fFn, fVs, fVs0, fTup, fFresh, fDisp, fTupOf, fListOf, fIsi, fCall, fCallW, fVal, fSlotC, isSet, Pf.rs, Pf.rsS, Pf.rsV, rsAll, rsD, keyD, datS, datsS, setS_s, setS_dv, setS_ol, setS_dat, setS_none, setS_olst, setS_rlst, setS_fdic, setS_odic, gN, gT, gs0, gsC, lenIs, binD, add_ii, subD, mulD, fdivD, modD, cmpD, ordD, isD, isNn, isNi, isNb, isNt, isNl, isiD, at_l, at_t, fn_lenL, fn_lenT, fn_max2, fn_abs, fn_int, fn_intb, intV, seq_l, seq_t, lstV, fApp, fAugD, fAugI, olS, odS, odH, inS, getElem_s, List.replicate, e23, l2]
        have kids : ∀ (b : D), b ∈ ds → ∀ rs, b = .tuple rs → ∀ y ∈ rs, ((Y m).f 7).2 [.dat y] = some (.bool (isR n y), [.dat y]) := fun b hb rs e y hy => by
          have hb := hx b hb
          rw [e] at hb
          cases n with
          | zero => rcases hb with z | ⟨i, z⟩ | ⟨b, z⟩ | ⟨s, z, h⟩ <;> cases z
          | succ n =>
            rcases hb with (z | ⟨i, z⟩ | ⟨b, z⟩ | ⟨s, z, h⟩) | ⟨ds', z | z, hl', hx'⟩
            · cases z
            · cases z
            · cases z
            · cases z
            · cases z
              exact is_rule_lv (n := n + 1) (lvm := m) (by omega) (by omega) ((hx' y hy).up)
            · cases z
        match ds, hl, hx, kids with
        | [], _, _, _ => exact other [] (by simp) (by simp)
        | [u], _, _, _ => exact other [u] (by simp) (by simp)
        | [a, b], _, hx, kids =>
          have ha := hx a (by simp)
          have hb := hx b (by simp)
          exact fb_ret (en' := [some (.dat (.tuple [a, b])), none]) rfl (is_rule_gen (m := m) (n := n) (by omega) (L := 2) rfl (.inl rfl) rfl (ha.up.shD.shp (by omega)) rfl rfl rfl (fun z => by cases z) hb.nd hb (kids b (by simp))) rfl
        | [a, x, b], _, hx, kids =>
          have ha := hx a (by simp)
          have hb := hx b (by simp)
          exact fb_ret (en' := [some (.dat (.tuple [a, x, b])), none]) rfl (is_rule_gen (m := m) (n := n) (by omega) (L := 3) rfl (.inr rfl) rfl (ha.up.shD.shp (by omega)) rfl rfl rfl (fun _ => rfl) (hx x (by simp)).nd hb (kids b (by simp))) rfl
        | a :: b :: c :: d :: r, _, _, _ => exact other _ (by simp only [List.length_cons]; omega) (by simp only [List.length_cons]; omega)
      · exact flat rfl
termination_by n => n


end K26

set_option maxHeartbeats 4000000
namespace K26
open PySem L2 Pf
theorem lr_comp {m n : Nat} {d : D} {rs : List D} (hl : rs.length ≤ 12) (hr : ∀ x ∈ rs, ((Y m).f 20).2 [.dat x] = some (.bool (isR n x), [.dat x])) : evL (Y m) c__law_is_rule_1 [some (.dat d), some (.dat (.tuple rs)), none] = some (rs.filter (fun x => !(isR n x)), [some (.dat d), some (.dat (.tuple rs)), none]) := by
  have hcomp := comp_map (vs := [2]) (bd := evG (.name 2)) (cond := evC (Y m) c__law_is_rule_1c) (elt := evE (Y m) c__law_is_rule_1e) (f := fun x : D => x) (g := fun x => x) (p := fun x => !(isR n x)) (en := [some (.dat d), some (.dat (.tuple rs)), none]) rs fun x hx' => by
    have h1 := hr x hx'
    refine ⟨[some (.dat d), some (.dat (.tuple rs)), some (.dat x)], [some (.dat d), some (.dat (.tuple rs)), some (.dat x)], rfl, ?_, ?_⟩
    · simp [c__law_is_rule_1c, evB, evS, evE, evL, evO, evOs, evEs, evT, evTs, evI, evC, evP, evDd, evPs, evWs, evG, evGs, fSeq2, aft, fNext, fRet, fIf, fAsg, fAsgL, fAsgT, fAsgD, fPar, fWv, fWl, fW0, setWs, wiS, fLit, fVar, Pf.slotAt, varS, fBin, fNeg, negD, fCmp, fChain, fAnd, fOr, fNot, fBool, boolS, fTest, fIte, fAt, fAtD, fCut, fPart, fNoPart, fOs, fOs0, fFn, fVs, fVs0, fTup, fFresh, fDisp, fTupOf, fListOf, fIsi, fCall, fCallW, fVal, fSlotC, isSet, Pf.rs, Pf.rsS, Pf.rsV, rsAll, rsD, keyD, datS, datsS, setS_s, setS_dv, setS_ol, setS_dat, setS_none, setS_olst, setS_rlst, setS_fdic, setS_odic, gN, gT, gs0, gsC, lenIs, binD, addD, subD, mulD, fdivD, modD, cmpD, ordD, isD, isN, isiD, at_l, at_t, fn_lenL, fn_lenT, fn_max2, fn_abs, fn_int, fn_intb, intV, seq_l, seq_t, lstV, fApp, fAugD, fAugI, olS, odS, odH, inS, getElem_s, np__law_is_rule, h1]
    · split
      · exact ⟨[some (.dat d), some (.dat (.tuple rs)), some (.dat x)], by simp [c__law_is_rule_1e, evB, evS, evE, evL, evO, evOs, evEs, evT, evTs, evI, evC, evP, evDd, evPs, evWs, evG, evGs, fSeq2, aft, fNext, fRet, fIf, fAsg, fAsgL, fAsgT, fAsgD, fPar, fWv, fWl, fW0, setWs, wiS, fLit, fVar, Pf.slotAt, varS, fBin, fNeg, negD, fCmp, fChain, fAnd, fOr, fNot, fBool, boolS, fTest, fIte, fAt, fAtD, fCut, fPart, fNoPart, fOs, fOs0, fFn, fVs, fVs0, fTup, fFresh, fDisp, fTupOf, fListOf, fIsi, fCall, fCallW, fVal, fSlotC, isSet, Pf.rs, Pf.rsS, Pf.rsV, rsAll, rsD, keyD, datS, datsS, setS_s, setS_dv, setS_ol, setS_dat, setS_none, setS_olst, setS_rlst, setS_fdic, setS_odic, gN, gT, gs0, gsC, lenIs, binD, addD, subD, mulD, fdivD, modD, cmpD, ordD, isD, isN, isiD, at_l, at_t, fn_lenL, fn_lenT, fn_max2, fn_abs, fn_int, fn_intb, intV, seq_l, seq_t, lstV, fApp, fAugD, fAugI, olS, odS, odH, inS, getElem_s], rfl⟩
      · rfl
  rw [show rs.map (fun x : D => x) = rs from List.map_id _, show ∀ zs : List D, zs.map (fun x : D => x) = zs from fun zs => List.map_id _] at hcomp
  unfold c__law_is_rule_1
  refine (comp_ev (ds := rs) (en1 := [some (.dat d), some (.dat (.tuple rs)), none]) (en2 := [some (.dat d), some (.dat (.tuple rs)), none]) (r := rs.filter (fun x => !(isR n x))) ?_ ?_ ?_).trans rfl
  · unfold c__law_is_rule_1i
    rw [evI]; unfold fSeq
    simp [evB, evS, evE, evL, evO, evOs, evEs, evT, evTs, evI, evC, evP, evDd, evPs, evWs, evG, evGs, fSeq2, aft, fNext, fRet, fIf, fAsg, fAsgL, fAsgT, fAsgD, fPar, fWv, fWl, fW0, setWs, wiS, fLit, fVar, Pf.slotAt, varS, fBin, fNeg, negD, fCmp, fChain, fAnd, fOr, fNot, fBool, boolS, fTest, fIte, fAt, fAtD, fCut, fPart, fNoPart, fOs, fOs0, fFn, fVs, fVs0, fTup, fFresh, fDisp, fTupOf, fListOf, fIsi, fCall, fCallW, fVal, fSlotC, isSet, Pf.rs, Pf.rsS, Pf.rsV, rsAll, rsD, keyD, datS, datsS, setS_s, setS_dv, setS_ol, setS_dat, setS_none, setS_olst, setS_rlst, setS_fdic, setS_odic, gN, gT, gs0, gsC, lenIs, binD, addD, subD, mulD, fdivD, modD, cmpD, ordD, isD, isN, isiD, at_l, at_t, fn_lenL, fn_lenT, fn_max2, fn_abs, fn_int, fn_intb, intV, seq_l, seq_t, lstV, fApp, fAugD, fAugI, olS, odS, odH, inS, getElem_s]
  · unfold lim; omega
  · exact hcomp
def isStr : D → Bool
  | .str _ => true
  | _ => false
theorem isi_str {a : D} (h : nD a) : isiD .str a = some (isStr a) := by
  cases a <;> first | exact h.elim | rfl
theorem isF_and (x : D) : isF x = (isI x && decide (0 ≤ toI x)) := by
  cases x <;> rfl
theorem isI_toI {x : D} (h : isI x = true) : x = .int (toI x) := by
  cases x with
  | int i => rfl
  | _ => cases h
theorem law_is_rule_gen {m n : Nat} (hm : 4 ≤ m) {d a x b : D} {L : Int} (ht : isiD .tuple d = some true) (hL : L = 2 ∨ L = 3) (hlen : fnD .len [d] = some (.int L)) (sa : shp a = true) (na : nD a) (h0 : atD d (.int 0) = some a) (h1 : atD d (.int 1) = some x) (hb : atD d (.int (L - 1)) = some b) (h2 : L = 3 → atD d (.int 2) = some b)
    (hx : nD x) {q : Nat} (hq20 : q ≤ 20) (hq : Nd q b) (hr : ∀ rs, b = .tuple rs → ∀ y ∈ rs, ((Y m).f 20).2 [.dat y] = some (.bool (isR n y), [.dat y])) :
    ∃ o, evB (Y m) b__law_is_rule [some (.dat d), none, none] = some (.ret (.bool (isRg (isR n) L a x b)), [some (.dat d), o, none]) := by
  have l2 : (2 : Nat) ≤ lim := by decide
  have hxb : L = 2 → x = b := fun e => by
    subst e
    exact Option.some.inj (h1.symm.trans hb)
  have l0 : (0 : Nat) ≤ lim := by decide
  have eC := eqD_S sa shp_s1
  have eP := eqD_S sa shp_s2
  have eA := eqD_S sa shp_s3
  have eO := eqD_S sa shp_s4
  have eS := isi_str na
  have e23 := inD_23 L
  rw [decide_eq_true hL] at e23
  have eL2 := eqD_int L 2
  have eL3 := eqD_int L 3
  have cN := law_is_number_lv (lvm := m) (by omega) hx
  have cS := law_is_part_lv (lvm := m) (by omega) hq20 hq
  have kx : isI x = true → x = .int (toI x) := isI_toI
  -- the rules within
  have inner : (∃ rs bs, b = .tuple rs ∧ evL (Y m) c__law_is_rule_1 [some (.dat d), some (.dat (.tuple rs)), none] = some (bs, [some (.dat d), some (.dat (.tuple rs)), none]) ∧ eqD (.list bs) (.list []) = some (allR (isR n) b)) ∨ (isiD .tuple b = some false ∧ allR (isR n) b = false) := by
    rcases hq.tup' with ⟨rs, rfl, hl, hxs⟩ | ⟨t1, t2⟩
    · refine .inl ⟨rs, _, rfl, lr_comp hl (hr rs rfl), ?_⟩
      exact bad_nilD (n := q) (by omega) rs (isR n) fun x hx' => (hxs x hx').shD
    · exact .inr ⟨t1, t2 _⟩
  by_cases hs : isStr a = true
  rotate_left
  · have hs : isStr a = false := Bool.eq_false_iff.mpr hs
    have : isRg (isR n) L a x b = false := by
      have z : ∀ s, isS s a = false := fun s => by
        cases a with
        | str _ => cases hs
        | _ => rfl
      unfold isRg
      rw [z, z, z, z]
      rfl
    rw [this]
    rw [hs] at eS
    exact ⟨none, by simp [b__law_is_rule, evB, evS, evE, evL, evO, evOs, evEs, evT, evTs, evI, evC, evP, evDd, evPs, evWs, evG, evGs, fSeq2, aft, fNext, fRet, fIf, fAsg, fAsgL, fAsgT, fAsgD, fPar, fWv, fWl, fW0, setWs, wiS, fLit, fVar, Pf.slotAt, varS, fBin, fNeg, negD, fCmp, fChain, fAnd, fOr, fNot, fBool, boolS, fTest, fIte, fAt, fAtD, fCut, fPart, fNoPart, fOs, fOs0, fFn, fVs, fVs0, fTup, fFresh, fDisp, fTupOf, fListOf, fIsi, fCall, fCallW, fVal, fSlotC, isSet, Pf.rs, Pf.rsS, Pf.rsV, rsAll, rsD, keyD, datS, datsS, setS_s, setS_dv, setS_ol, setS_dat, setS_none, setS_olst, setS_rlst, setS_fdic, setS_odic, gN, gT, gs0, gsC, lenIs, binD, add_ii, subD, mulD, fdivD, modD, cmpD, ordD, isD, isNn, isNi, isNb, isNt, isNl, at_l, at_t, fn_lenL, fn_lenT, fn_max2, fn_abs, fn_int, fn_intb, intV, seq_l, seq_t, lstV, fApp, fAugD, fAugI, olS, odS, odH, inS, getElem_s, ht, hlen, e23, h0, eS, l2]⟩
  rw [hs] at eS
  unfold isRg
  rcases cls a with ⟨k1, k2, k3, k4⟩ | ⟨k1, k2, k3, k4⟩ | ⟨k1, k2, k3, k4⟩ | ⟨k1, k2, k3, k4⟩ | ⟨k1, k2, k3, k4⟩
  · rw [k1] at eC
    rw [k1, if_pos rfl]
    refine ⟨none, ?_⟩
    rcases hL with rfl | rfl
    · obtain rfl := hxb rfl
      rw [isF_and]
      cases hi : isI x with
      | false =>
        rw [hi] at cN
        simp [b__law_is_rule, evB, evS, evE, evL, evO, evOs, evEs, evT, evTs, evI, evC, evP, evDd, evPs, evWs, evG, evGs, fSeq2, aft, fNext, fRet, fIf, fAsg, fAsgL, fAsgT, fAsgD, fPar, fWv, fWl, fW0, setWs, wiS, fLit, fVar, Pf.slotAt, varS, fBin, fNeg, negD, fCmp, fChain, fAnd, fOr, fNot, fBool, boolS, fTest, fIte, fAt, fAtD, fCut, fPart, fNoPart, fOs, fOs0, fFn, fVs, fVs0, fTup, fFresh, fDisp, fTupOf, fListOf, fIsi, fCall, fCallW, fVal, fSlotC, isSet, Pf.rs, Pf.rsS, Pf.rsV, rsAll, rsD, keyD, datS, datsS, setS_s, setS_dv, setS_ol, setS_dat, setS_none, setS_olst, setS_rlst, setS_fdic, setS_odic, gN, gT, gs0, gsC, lenIs, binD, add_ii, subD, mulD, fdivD, modD, cmpD, ordD, isD, isNn, isNi, isNb, isNt, isNl, at_l, at_t, fn_lenL, fn_lenT, fn_max2, fn_abs, fn_int, fn_intb, intV, seq_l, seq_t, lstV, fApp, fAugD, fAugI, olS, odS, odH, inS, getElem_s, ht, hlen, e23, h0, h1, eS, eC, eL2, l2, np__law_is_number, cN]
      | true =>
        have kx := kx hi
        rw [hi] at cN
        generalize toI x = i at *
        subst kx
        simp [b__law_is_rule, evB, evS, evE, evL, evO, evOs, evEs, evT, evTs, evI, evC, evP, evDd, evPs, evWs, evG, evGs, fSeq2, aft, fNext, fRet, fIf, fAsg, fAsgL, fAsgT, fAsgD, fPar, fWv, fWl, fW0, setWs, wiS, fLit, fVar, Pf.slotAt, varS, fBin, fNeg, negD, fCmp, fChain, fAnd, fOr, fNot, fBool, boolS, fTest, fIte, fAt, fAtD, fCut, fPart, fNoPart, fOs, fOs0, fFn, fVs, fVs0, fTup, fFresh, fDisp, fTupOf, fListOf, fIsi, fCall, fCallW, fVal, fSlotC, isSet, Pf.rs, Pf.rsS, Pf.rsV, rsAll, rsD, keyD, datS, datsS, setS_s, setS_dv, setS_ol, setS_dat, setS_none, setS_olst, setS_rlst, setS_fdic, setS_odic, gN, gT, gs0, gsC, lenIs, binD, add_ii, subD, mulD, fdivD, modD, cmpD, ordD, isD, isNn, isNi, isNb, isNt, isNl, at_l, at_t, fn_lenL, fn_lenT, fn_max2, fn_abs, fn_int, fn_intb, intV, seq_l, seq_t, lstV, fApp, fAugD, fAugI, olS, odS, odH, inS, getElem_s, ht, hlen, e23, h0, h1, eS, eC, eL2, l2, np__law_is_number, cN]
    · have h2 := h2 rfl
      simp [b__law_is_rule, evB, evS, evE, evL, evO, evOs, evEs, evT, evTs, evI, evC, evP, evDd, evPs, evWs, evG, evGs, fSeq2, aft, fNext, fRet, fIf, fAsg, fAsgL, fAsgT, fAsgD, fPar, fWv, fWl, fW0, setWs, wiS, fLit, fVar, Pf.slotAt, varS, fBin, fNeg, negD, fCmp, fChain, fAnd, fOr, fNot, fBool, boolS, fTest, fIte, fAt, fAtD, fCut, fPart, fNoPart, fOs, fOs0, fFn, fVs, fVs0, fTup, fFresh, fDisp, fTupOf, fListOf, fIsi, fCall, fCallW, fVal, fSlotC, isSet, Pf.rs, Pf.rsS, Pf.rsV, rsAll, rsD, keyD, datS, datsS, setS_s, setS_dv, setS_ol, setS_dat, setS_none, setS_olst, setS_rlst, setS_fdic, setS_odic, gN, gT, gs0, gsC, lenIs, binD, add_ii, subD, mulD, fdivD, modD, cmpD, ordD, isD, isNn, isNi, isNb, isNt, isNl, at_l, at_t, fn_lenL, fn_lenT, fn_max2, fn_abs, fn_int, fn_intb, intV, seq_l, seq_t, lstV, fApp, fAugD, fAugI, olS, odS, odH, inS, getElem_s, ht, hlen, e23, h0, h1, eS, eC, eL2, l2]
  · rw [k1] at eC
    rw [k2] at eP
    rw [k1, if_neg (by decide), k2, if_pos rfl]
    refine ⟨none, ?_⟩
    rcases hL with rfl | rfl
    · obtain rfl := hxb rfl
      simp [b__law_is_rule, evB, evS, evE, evL, evO, evOs, evEs, evT, evTs, evI, evC, evP, evDd, evPs, evWs, evG, evGs, fSeq2, aft, fNext, fRet, fIf, fAsg, fAsgL, fAsgT, fAsgD, fPar, fWv, fWl, fW0, setWs, wiS, fLit, fVar, Pf.slotAt, varS, fBin, fNeg, negD, fCmp, fChain, fAnd, fOr, fNot, fBool, boolS, fTest, fIte, fAt, fAtD, fCut, fPart, fNoPart, fOs, fOs0, fFn, fVs, fVs0, fTup, fFresh, fDisp, fTupOf, fListOf, fIsi, fCall, fCallW, fVal, fSlotC, isSet, Pf.rs, Pf.rsS, Pf.rsV, rsAll, rsD, keyD, datS, datsS, setS_s, setS_dv, setS_ol, setS_dat, setS_none, setS_olst, setS_rlst, setS_fdic, setS_odic, gN, gT, gs0, gsC, lenIs, binD, add_ii, subD, mulD, fdivD, modD, cmpD, ordD, isD, isNn, isNi, isNb, isNt, isNl, at_l, at_t, fn_lenL, fn_lenT, fn_max2, fn_abs, fn_int, fn_intb, intV, seq_l, seq_t, lstV, fApp, fAugD, fAugI, olS, odS, odH, inS, getElem_s, ht, hlen, e23, h0, h1, eS, eC, eP, eL3, l2]
    · have h2 := h2 rfl
      rw [isF_and]
      cases hi : isI x with
      | false =>
        rw [hi] at cN
        simp [b__law_is_rule, evB, evS, evE, evL, evO, evOs, evEs, evT, evTs, evI, evC, evP, evDd, evPs, evWs, evG, evGs, fSeq2, aft, fNext, fRet, fIf, fAsg, fAsgL, fAsgT, fAsgD, fPar, fWv, fWl, fW0, setWs, wiS, fLit, fVar, Pf.slotAt, varS, fBin, fNeg, negD, fCmp, fChain, fAnd, fOr, fNot, fBool, boolS, fTest, fIte, fAt, fAtD, fCut, fPart, fNoPart, fOs, fOs0, fFn, fVs, fVs0, fTup, fFresh, fDisp, fTupOf, fListOf, fIsi, fCall, fCallW, fVal, fSlotC, isSet, Pf.rs, Pf.rsS, Pf.rsV, rsAll, rsD, keyD, datS, datsS, setS_s, setS_dv, setS_ol, setS_dat, setS_none, setS_olst, setS_rlst, setS_fdic, setS_odic, gN, gT, gs0, gsC, lenIs, binD, add_ii, subD, mulD, fdivD, modD, cmpD, ordD, isD, isNn, isNi, isNb, isNt, isNl, at_l, at_t, fn_lenL, fn_lenT, fn_max2, fn_abs, fn_int, fn_intb, intV, seq_l, seq_t, lstV, fApp, fAugD, fAugI, olS, odS, odH, inS, getElem_s, ht, hlen, e23, h0, h1, eS, eC, eP, eL3, l2, np__law_is_number, cN]
      | true =>
        have kx := kx hi
        rw [hi] at cN
        generalize toI x = i at *
        subst kx
        by_cases y : 0 ≤ i
        · simp [b__law_is_rule, evB, evS, evE, evL, evO, evOs, evEs, evT, evTs, evI, evC, evP, evDd, evPs, evWs, evG, evGs, fSeq2, aft, fNext, fRet, fIf, fAsg, fAsgL, fAsgT, fAsgD, fPar, fWv, fWl, fW0, setWs, wiS, fLit, fVar, Pf.slotAt, varS, fBin, fNeg, negD, fCmp, fChain, fAnd, fOr, fNot, fBool, boolS, fTest, fIte, fAt, fAtD, fCut, fPart, fNoPart, fOs, fOs0, fFn, fVs, fVs0, fTup, fFresh, fDisp, fTupOf, fListOf, fIsi, fCall, fCallW, fVal, fSlotC, isSet, Pf.rs, Pf.rsS, Pf.rsV, rsAll, rsD, keyD, datS, datsS, setS_s, setS_dv, setS_ol, setS_dat, setS_none, setS_olst, setS_rlst, setS_fdic, setS_odic, gN, gT, gs0, gsC, lenIs, binD, add_ii, subD, mulD, fdivD, modD, cmpD, ordD, isD, isNn, isNi, isNb, isNt, isNl, at_l, at_t, fn_lenL, fn_lenT, fn_max2, fn_abs, fn_int, fn_intb, intV, seq_l, seq_t, lstV, fApp, fAugD, fAugI, olS, odS, odH, inS, getElem_s, ht, hlen, e23, h0, h1, h2, eS, eC, eP, eL3, l2, np__law_is_number, cN, y, np__law_is_part, cS]
        · simp [b__law_is_rule, evB, evS, evE, evL, evO, evOs, evEs, evT, evTs, evI, evC, evP, evDd, evPs, evWs, evG, evGs, fSeq2, aft, fNext, fRet, fIf, fAsg, fAsgL, fAsgT, fAsgD, fPar, fWv, fWl, fW0, setWs, wiS, fLit, fVar, Pf.slotAt, varS, fBin, fNeg, negD, fCmp, fChain, fAnd, fOr, fNot, fBool, boolS, fTest, fIte, fAt, fAtD, fCut, fPart, fNoPart, fOs, fOs0, fFn, fVs, fVs0, fTup, fFresh, fDisp, fTupOf, fListOf, fIsi, fCall, fCallW, fVal, fSlotC, isSet, Pf.rs, Pf.rsS, Pf.rsV, rsAll, rsD, keyD, datS, datsS, setS_s, setS_dv, setS_ol, setS_dat, setS_none, setS_olst, setS_rlst, setS_fdic, setS_odic, gN, gT, gs0, gsC, lenIs, binD, add_ii, subD, mulD, fdivD, modD, cmpD, ordD, isD, isNn, isNi, isNb, isNt, isNl, at_l, at_t, fn_lenL, fn_lenT, fn_max2, fn_abs, fn_int, fn_intb, intV, seq_l, seq_t, lstV, fApp, fAugD, fAugI, olS, odS, odH, inS, getElem_s, ht, hlen, e23, h0, h1, h2, eS, eC, eP, eL3, l2, np__law_is_number, cN, y]
  · rw [k1] at eC
    rw [k2] at eP
    rw [k3] at eA
    rw [k1, if_neg (by decide), k2, if_neg (by decide), k3, if_pos rfl]
    refine ⟨some (.dat b), ?_⟩
    rcases inner with ⟨rs, bs, rfl, i1, i2⟩ | ⟨i1, i2⟩
    · rcases hL with rfl | rfl
      · replace hb : atD d (.int 1) = some (.tuple rs) := hb
        cases hz : allR (isR n) (.tuple rs) <;> rw [hz] at i2 <;> simp [b__law_is_rule, evB, evS, evE, evL, evO, evOs, evEs, evT, evTs, evI, evC, evP, evDd, evPs, evWs, evG, evGs, fSeq2, aft, fNext, fRet, fIf, fAsg, fAsgL, fAsgT, fAsgD, fPar, fWv, fWl, fW0, setWs, wiS, fLit, fVar, Pf.slotAt, varS, fBin, fNeg, negD, fCmp, fChain, fAnd, fOr, fNot, fBool, boolS, fTest, fIte, fAt, fAtD, fCut, fPart, fNoPart, fOs, fOs0, fFn, fVs, fVs0, fTup, fFresh, fDisp, fTupOf, fListOf, fIsi, fCall, fCallW, fVal, fSlotC, isSet, Pf.rs, Pf.rsS, Pf.rsV, rsAll, rsD, keyD, datS, datsS, setS_s, setS_dv, setS_ol, setS_dat, setS_none, setS_olst, setS_rlst, setS_fdic, setS_odic, gN, gT, gs0, gsC, lenIs, binD, add_ii, subD, mulD, fdivD, modD, cmpD, ordD, isD, isNn, isNi, isNb, isNt, isNl, at_l, at_t, fn_lenL, fn_lenT, fn_max2, fn_abs, fn_int, fn_intb, intV, seq_l, seq_t, lstV, fApp, fAugD, fAugI, olS, odS, odH, inS, getElem_s, ht, hlen, e23, h0, eS, eC, eP, eA, eL2, l2, l0, hb, i1, i2, isi_tt]
      · have h2 := h2 rfl
        cases hz : allR (isR n) (.tuple rs) <;> rw [hz] at i2 <;> simp [b__law_is_rule, evB, evS, evE, evL, evO, evOs, evEs, evT, evTs, evI, evC, evP, evDd, evPs, evWs, evG, evGs, fSeq2, aft, fNext, fRet, fIf, fAsg, fAsgL, fAsgT, fAsgD, fPar, fWv, fWl, fW0, setWs, wiS, fLit, fVar, Pf.slotAt, varS, fBin, fNeg, negD, fCmp, fChain, fAnd, fOr, fNot, fBool, boolS, fTest, fIte, fAt, fAtD, fCut, fPart, fNoPart, fOs, fOs0, fFn, fVs, fVs0, fTup, fFresh, fDisp, fTupOf, fListOf, fIsi, fCall, fCallW, fVal, fSlotC, isSet, Pf.rs, Pf.rsS, Pf.rsV, rsAll, rsD, keyD, datS, datsS, setS_s, setS_dv, setS_ol, setS_dat, setS_none, setS_olst, setS_rlst, setS_fdic, setS_odic, gN, gT, gs0, gsC, lenIs, binD, add_ii, subD, mulD, fdivD, modD, cmpD, ordD, isD, isNn, isNi, isNb, isNt, isNl, at_l, at_t, fn_lenL, fn_lenT, fn_max2, fn_abs, fn_int, fn_intb, intV, seq_l, seq_t, lstV, fApp, fAugD, fAugI, olS, odS, odH, inS, getElem_s, ht, hlen, e23, h0, h1, h2, eS, eC, eP, eA, eL2, l2, l0, i1, i2, isi_tt]
    · rw [i2]
      rcases hL with rfl | rfl
      · replace hb : atD d (.int 1) = some b := hb
        simp [b__law_is_rule, evB, evS, evE, evL, evO, evOs, evEs, evT, evTs, evI, evC, evP, evDd, evPs, evWs, evG, evGs, fSeq2, aft, fNext, fRet, fIf, fAsg, fAsgL, fAsgT, fAsgD, fPar, fWv, fWl, fW0, setWs, wiS, fLit, fVar, Pf.slotAt, varS, fBin, fNeg, negD, fCmp, fChain, fAnd, fOr, fNot, fBool, boolS, fTest, fIte, fAt, fAtD, fCut, fPart, fNoPart, fOs, fOs0, fFn, fVs, fVs0, fTup, fFresh, fDisp, fTupOf, fListOf, fIsi, fCall, fCallW, fVal, fSlotC, isSet, Pf.rs, Pf.rsS, Pf.rsV, rsAll, rsD, keyD, datS, datsS, setS_s, setS_dv, setS_ol, setS_dat, setS_none, setS_olst, setS_rlst, setS_fdic, setS_odic, gN, gT, gs0, gsC, lenIs, binD, add_ii, subD, mulD, fdivD, modD, cmpD, ordD, isD, isNn, isNi, isNb, isNt, isNl, at_l, at_t, fn_lenL, fn_lenT, fn_max2, fn_abs, fn_int, fn_intb, intV, seq_l, seq_t, lstV, fApp, fAugD, fAugI, olS, odS, odH, inS, getElem_s, ht, hlen, e23, h0, eS, eC, eP, eA, eL2, l2, l0, hb, i1]
      · have h2 := h2 rfl
        simp [b__law_is_rule, evB, evS, evE, evL, evO, evOs, evEs, evT, evTs, evI, evC, evP, evDd, evPs, evWs, evG, evGs, fSeq2, aft, fNext, fRet, fIf, fAsg, fAsgL, fAsgT, fAsgD, fPar, fWv, fWl, fW0, setWs, wiS, fLit, fVar, Pf.slotAt, varS, fBin, fNeg, negD, fCmp, fChain, fAnd, fOr, fNot, fBool, boolS, fTest, fIte, fAt, fAtD, fCut, fPart, fNoPart, fOs, fOs0, fFn, fVs, fVs0, fTup, fFresh, fDisp, fTupOf, fListOf, fIsi, fCall, fCallW, fVal, fSlotC, isSet, Pf.rs, Pf.rsS, Pf.rsV, rsAll, rsD, keyD, datS, datsS, setS_s, setS_dv, setS_ol, setS_dat, setS_none, setS_olst, setS_rlst, setS_fdic, setS_odic, gN, gT, gs0, gsC, lenIs, binD, add_ii, subD, mulD, fdivD, modD, cmpD, ordD, isD, isNn, isNi, isNb, isNt, isNl, at_l, at_t, fn_lenL, fn_lenT, fn_max2, fn_abs, fn_int, fn_intb, intV, seq_l, seq_t, lstV, fApp, fAugD, fAugI, olS, odS, odH, inS, getElem_s, ht, hlen, e23, h0, h1, h2, eS, eC, eP, eA, eL2, l2, l0, i1]
  · rw [k1] at eC
    rw [k2] at eP
    rw [k3] at eA
    rw [k4] at eO
    rw [k1, if_neg (by decide), k2, if_neg (by decide), k3, if_neg (by decide), k4, if_pos rfl]
    refine ⟨some (.dat b), ?_⟩
    rcases inner with ⟨rs, bs, rfl, i1, i2⟩ | ⟨i1, i2⟩
    · cases hz : allR (isR n) (.tuple rs) with
      | false =>
        rw [hz] at i2
        rcases hL with rfl | rfl
        · replace hb : atD d (.int 1) = some (.tuple rs) := hb
          simp [b__law_is_rule, evB, evS, evE, evL, evO, evOs, evEs, evT, evTs, evI, evC, evP, evDd, evPs, evWs, evG, evGs, fSeq2, aft, fNext, fRet, fIf, fAsg, fAsgL, fAsgT, fAsgD, fPar, fWv, fWl, fW0, setWs, wiS, fLit, fVar, Pf.slotAt, varS, fBin, fNeg, negD, fCmp, fChain, fAnd, fOr, fNot, fBool, boolS, fTest, fIte, fAt, fAtD, fCut, fPart, fNoPart, fOs, fOs0, fFn, fVs, fVs0, fTup, fFresh, fDisp, fTupOf, fListOf, fIsi, fCall, fCallW, fVal, fSlotC, isSet, Pf.rs, Pf.rsS, Pf.rsV, rsAll, rsD, keyD, datS, datsS, setS_s, setS_dv, setS_ol, setS_dat, setS_none, setS_olst, setS_rlst, setS_fdic, setS_odic, gN, gT, gs0, gsC, lenIs, binD, add_ii, subD, mulD, fdivD, modD, cmpD, ordD, isD, isNn, isNi, isNb, isNt, isNl, at_l, at_t, fn_lenL, fn_lenT, fn_max2, fn_abs, fn_int, fn_intb, intV, seq_l, seq_t, lstV, fApp, fAugD, fAugI, olS, odS, odH, inS, getElem_s, ht, hlen, e23, h0, eS, eC, eP, eA, eO, eL2, eL3, l2, l0, hb, i1, i2, isi_tt]
        · have h2 := h2 rfl
          simp [b__law_is_rule, evB, evS, evE, evL, evO, evOs, evEs, evT, evTs, evI, evC, evP, evDd, evPs, evWs, evG, evGs, fSeq2, aft, fNext, fRet, fIf, fAsg, fAsgL, fAsgT, fAsgD, fPar, fWv, fWl, fW0, setWs, wiS, fLit, fVar, Pf.slotAt, varS, fBin, fNeg, negD, fCmp, fChain, fAnd, fOr, fNot, fBool, boolS, fTest, fIte, fAt, fAtD, fCut, fPart, fNoPart, fOs, fOs0, fFn, fVs, fVs0, fTup, fFresh, fDisp, fTupOf, fListOf, fIsi, fCall, fCallW, fVal, fSlotC, isSet, Pf.rs, Pf.rsS, Pf.rsV, rsAll, rsD, keyD, datS, datsS, setS_s, setS_dv, setS_ol, setS_dat, setS_none, setS_olst, setS_rlst, setS_fdic, setS_odic, gN, gT, gs0, gsC, lenIs, binD, add_ii, subD, mulD, fdivD, modD, cmpD, ordD, isD, isNn, isNi, isNb, isNt, isNl, at_l, at_t, fn_lenL, fn_lenT, fn_max2, fn_abs, fn_int, fn_intb, intV, seq_l, seq_t, lstV, fApp, fAugD, fAugI, olS, odS, odH, inS, getElem_s, ht, hlen, e23, h0, h1, h2, eS, eC, eP, eA, eO, eL2, eL3, l2, l0, i1, i2, isi_tt]
      | true =>
        rw [hz] at i2
        rcases hL with rfl | rfl
        · replace hb : atD d (.int 1) = some (.tuple rs) := hb
          simp [b__law_is_rule, evB, evS, evE, evL, evO, evOs, evEs, evT, evTs, evI, evC, evP, evDd, evPs, evWs, evG, evGs, fSeq2, aft, fNext, fRet, fIf, fAsg, fAsgL, fAsgT, fAsgD, fPar, fWv, fWl, fW0, setWs, wiS, fLit, fVar, Pf.slotAt, varS, fBin, fNeg, negD, fCmp, fChain, fAnd, fOr, fNot, fBool, boolS, fTest, fIte, fAt, fAtD, fCut, fPart, fNoPart, fOs, fOs0, fFn, fVs, fVs0, fTup, fFresh, fDisp, fTupOf, fListOf, fIsi, fCall, fCallW, fVal, fSlotC, isSet, Pf.rs, Pf.rsS, Pf.rsV, rsAll, rsD, keyD, datS, datsS, setS_s, setS_dv, setS_ol, setS_dat, setS_none, setS_olst, setS_rlst, setS_fdic, setS_odic, gN, gT, gs0, gsC, lenIs, binD, add_ii, subD, mulD, fdivD, modD, cmpD, ordD, isD, isNn, isNi, isNb, isNt, isNl, at_l, at_t, fn_lenL, fn_lenT, fn_max2, fn_abs, fn_int, fn_intb, intV, seq_l, seq_t, lstV, fApp, fAugD, fAugI, olS, odS, odH, inS, getElem_s, ht, hlen, e23, h0, eS, eC, eP, eA, eO, eL2, eL3, l2, l0, hb, i1, i2, isi_tt]
        · have h2 := h2 rfl
          rw [isF_and]
          cases hi : isI x with
          | false =>
            rw [hi] at cN
            simp [b__law_is_rule, evB, evS, evE, evL, evO, evOs, evEs, evT, evTs, evI, evC, evP, evDd, evPs, evWs, evG, evGs, fSeq2, aft, fNext, fRet, fIf, fAsg, fAsgL, fAsgT, fAsgD, fPar, fWv, fWl, fW0, setWs, wiS, fLit, fVar, Pf.slotAt, varS, fBin, fNeg, negD, fCmp, fChain, fAnd, fOr, fNot, fBool, boolS, fTest, fIte, fAt, fAtD, fCut, fPart, fNoPart, fOs, fOs0, fFn, fVs, fVs0, fTup, fFresh, fDisp, fTupOf, fListOf, fIsi, fCall, fCallW, fVal, fSlotC, isSet, Pf.rs, Pf.rsS, Pf.rsV, rsAll, rsD, keyD, datS, datsS, setS_s, setS_dv, setS_ol, setS_dat, setS_none, setS_olst, setS_rlst, setS_fdic, setS_odic, gN, gT, gs0, gsC, lenIs, binD, add_ii, subD, mulD, fdivD, modD, cmpD, ordD, isD, isNn, isNi, isNb, isNt, isNl, at_l, at_t, fn_lenL, fn_lenT, fn_max2, fn_abs, fn_int, fn_intb, intV, seq_l, seq_t, lstV, fApp, fAugD, fAugI, olS, odS, odH, inS, getElem_s, ht, hlen, e23, h0, h1, h2, eS, eC, eP, eA, eO, eL2, eL3, l2, l0, i1, i2, isi_tt, np__law_is_number, cN]
          | true =>
            have kx := kx hi
            rw [hi] at cN
            generalize toI x = i at *
            subst kx
            by_cases y : 0 ≤ i
            · simp [b__law_is_rule, evB, evS, evE, evL, evO, evOs, evEs, evT, evTs, evI, evC, evP, evDd, evPs, evWs, evG, evGs, fSeq2, aft, fNext, fRet, fIf, fAsg, fAsgL, fAsgT, fAsgD, fPar, fWv, fWl, fW0, setWs, wiS, fLit, fVar, Pf.slotAt, varS, fBin, fNeg, negD, fCmp, fChain, fAnd, fOr, fNot, fBool, boolS, fTest, fIte, fAt, fAtD, fCut, fPart, fNoPart, fOs, fOs0, fFn, fVs, fVs0, fTup, fFresh, fDisp, fTupOf, fListOf, fIsi, fCall, fCallW, fVal, fSlotC, isSet, Pf.rs, Pf.rsS, Pf.rsV, rsAll, rsD, keyD, datS, datsS, setS_s, setS_dv, setS_ol, setS_dat, setS_none, setS_olst, setS_rlst, setS_fdic, setS_odic, gN, gT, gs0, gsC, lenIs, binD, add_ii, subD, mulD, fdivD, modD, cmpD, ordD, isD, isNn, isNi, isNb, isNt, isNl, at_l, at_t, fn_lenL, fn_lenT, fn_max2, fn_abs, fn_int, fn_intb, intV, seq_l, seq_t, lstV, fApp, fAugD, fAugI, olS, odS, odH, inS, getElem_s, ht, hlen, e23, h0, h1, h2, eS, eC, eP, eA, eO, eL2, eL3, l2, l0, i1, i2, isi_tt, np__law_is_number, cN, y, lnT]
              exact decide_eq_decide.mpr Iff.rfl
            · simp [b__law_is_rule, evB, evS, evE, evL, evO, evOs, evEs, evT, evTs, evI, evC, evP, evDd, evPs, evWs, evG, evGs, fSeq2, aft, fNext, fRet, fIf, fAsg, fAsgL, fAsgT, fAsgD, fPar, fWv, fWl, fW0, setWs, wiS, fLit, fVar, Pf.slotAt, varS, fBin, fNeg, negD, fCmp, fChain, fAnd, fOr, fNot, fBool, boolS, fTest, fIte, fAt, fAtD, fCut, fPart, fNoPart, fOs, fOs0, fFn, fVs, fVs0, fTup, fFresh, fDisp, fTupOf, fListOf, fIsi, fCall, fCallW, fVal, fSlotC, isSet, Pf.rs, Pf.rsS, Pf.rsV, rsAll, rsD, keyD, datS, datsS, setS_s, setS_dv, setS_ol, setS_dat, setS_none, setS_olst, setS_rlst, setS_fdic, setS_odic, gN, gT, gs0, gsC, lenIs, binD, add_ii, subD, mulD, fdivD, modD, cmpD, ordD, isD, isNn, isNi, isNb, isNt, isNl, at_l, at_t, fn_lenL, fn_lenT, fn_max2, fn_abs, fn_int, fn_intb, intV, seq_l, seq_t, lstV, fApp, fAugD, fAugI, olS, odS, odH, inS, getElem_s, ht, hlen, e23, h0, h1, h2, eS, eC, eP, eA, eO, eL2, eL3, l2, l0, i1, i2, isi_tt, np__law_is_number, cN, y]
    · rw [i2]
      rcases hL with rfl | rfl
      · replace hb : atD d (.int 1) = some b := hb
        simp [b__law_is_rule, evB, evS, evE, evL, evO, evOs, evEs, evT, evTs, evI, evC, evP, evDd, evPs, evWs, evG, evGs, fSeq2, aft, fNext, fRet, fIf, fAsg, fAsgL, fAsgT, fAsgD, fPar, fWv, fWl, fW0, setWs, wiS, fLit, fVar, Pf.slotAt, varS, fBin, fNeg, negD, fCmp, fChain, fAnd, fOr, fNot, fBool, boolS, fTest, fIte, fAt, fAtD, fCut, fPart, fNoPart, fOs, fOs0, fFn, fVs, fVs0, fTup, fFresh, fDisp, fTupOf, fListOf, fIsi, fCall, fCallW, fVal, fSlotC, isSet, Pf.rs, Pf.rsS, Pf.rsV, rsAll, rsD, keyD, datS, datsS, setS_s, setS_dv, setS_ol, setS_dat, setS_none, setS_olst, setS_rlst, setS_fdic, setS_odic, gN, gT, gs0, gsC, lenIs, binD, add_ii, subD, mulD, fdivD, modD, cmpD, ordD, isD, isNn, isNi, isNb, isNt, isNl, at_l, at_t, fn_lenL, fn_lenT, fn_max2, fn_abs, fn_int, fn_intb, intV, seq_l, seq_t, lstV, fApp, fAugD, fAugI, olS, odS, odH, inS, getElem_s, ht, hlen, e23, h0, eS, eC, eP, eA, eO, eL2, l2, l0, hb, i1]
      · have h2 := h2 rfl
        simp [b__law_is_rule, evB, evS, evE, evL, evO, evOs, evEs, evT, evTs, evI, evC, evP, evDd, evPs, evWs, evG, evGs, fSeq2, aft, fNext, fRet, fIf, fAsg, fAsgL, fAsgT, fAsgD, fPar, fWv, fWl, fW0, setWs, wiS, fLit, fVar, Pf.slotAt, varS, fBin, fNeg, negD, fCmp, fChain, fAnd, fOr, fNot, fBool, boolS, fTest, fIte, fAt, fAtD, fCut, fPart, fNoPart, fOs, fOs0, fFn, fVs, fVs0, fTup, fFresh, fDisp, fTupOf, fListOf, fIsi, fCall, fCallW, fVal, fSlotC, isSet, Pf.rs, Pf.rsS, Pf.rsV, rsAll, rsD, keyD, datS, datsS, setS_s, setS_dv, setS_ol, setS_dat, setS_none, setS_olst, setS_rlst, setS_fdic, setS_odic, gN, gT, gs0, gsC, lenIs, binD, add_ii, subD, mulD, fdivD, modD, cmpD, ordD, isD, isNn, isNi, isNb, isNt, isNl, at_l, at_t, fn_lenL, fn_lenT, fn_max2, fn_abs, fn_int, fn_intb, intV, seq_l, seq_t, lstV, fApp, fAugD, fAugI, olS, odS, odH, inS, getElem_s, ht, hlen, e23, h0, h1, h2, eS, eC, eP, eA, eO, eL2, l2, l0, i1]
  · rw [k1] at eC
    rw [k2] at eP
    rw [k3] at eA
    rw [k4] at eO
    rw [k1, if_neg (by decide), k2, if_neg (by decide), k3, if_neg (by decide), k4, if_neg (by decide)]
    refine ⟨some (.dat b), ?_⟩
    rcases inner with ⟨rs, bs, rfl, i1, i2⟩ | ⟨i1, i2⟩
    · cases hz : allR (isR n) (.tuple rs) <;> rw [hz] at i2 <;> simp [b__law_is_rule, evB, evS, evE, evL, evO, evOs, evEs, evT, evTs, evI, evC, evP, evDd, evPs, evWs, evG, evGs, fSeq2, aft, fNext, fRet, fIf, fAsg, fAsgL, fAsgT, fAsgD, fPar, fWv, fWl, fW0, setWs, wiS, fLit, fVar, Pf.slotAt, varS, fBin, fNeg, negD, fCmp, fChain, fAnd, fOr, fNot, fBool, boolS, fTest, fIte, fAt, fAtD, fCut, fPart, fNoPart, fOs, fOs0, fFn, fVs, fVs0, fTup, fFresh, fDisp, fTupOf, fListOf, fIsi, fCall, fCallW, fVal, fSlotC, isSet, Pf.rs, Pf.rsS, Pf.rsV, rsAll, rsD, keyD, datS, datsS, setS_s, setS_dv, setS_ol, setS_dat, setS_none, setS_olst, setS_rlst, setS_fdic, setS_odic, gN, gT, gs0, gsC, lenIs, binD, add_ii, subD, mulD, fdivD, modD, cmpD, ordD, isD, isNn, isNi, isNb, isNt, isNl, at_l, at_t, fn_lenL, fn_lenT, fn_max2, fn_abs, fn_int, fn_intb, intV, seq_l, seq_t, lstV, fApp, fAugD, fAugI, olS, odS, odH, inS, getElem_s, ht, hlen, e23, h0, h1, eS, eC, eP, eA, eO, l2, l0, hb, i1, i2, isi_tt]
    · simp [b__law_is_rule, evB, evS, evE, evL, evO, evOs, evEs, evT, evTs, evI, evC, evP, evDd, evPs, evWs, evG, evGs, fSeq2, aft, fNext, fRet, fIf, fAsg, fAsgL, fAsgT, fAsgD, fPar, fWv, fWl, fW0, setWs, wiS, fLit, fVar, Pf.slotAt, varS, fBin, fNeg, negD, fCmp, fChain, fAnd, fOr, fNot, fBool, boolS, fTest, fIte, fAt, fAtD, fCut, fPart, fNoPart, fOs, fOs0, fFn, fVs, fVs0, fTup, fFresh, fDisp, fTupOf, fListOf, fIsi, fCall, fCallW, fVal, fSlotC, isSet, Pf.rs, Pf.rsS, Pf.rsV, rsAll, rsD, keyD, datS, datsS, setS_s, setS_dv, setS_ol, setS_dat, setS_none, setS_olst, setS_rlst, setS_fdic, setS_odic, gN, gT, gs0, gsC, lenIs, binD, add_ii, subD, mulD, fdivD, modD, cmpD, ordD, isD, isNn, isNi, isNb, isNt, isNl, at_l, at_t, fn_lenL, fn_lenT, fn_max2, fn_abs, fn_int, fn_intb, intV, seq_l, seq_t, lstV, fApp, fAugD, fAugI, olS, odS, odH, inS, getElem_s, ht, hlen, e23, h0, h1, eS, eC, eP, eA, eO, l2, l0, hb, i1]
theorem law_is_rule_lv : ∀ {n lvm : Nat} (hn : n ≤ 19) (hm0 : n + 5 ≤ lvm) {d : D} (h : Nd n d), ((Y lvm).f 20).2 [.dat d] = some (.bool (isR n d), [.dat d])
  | n, lvm, hn, hm0, d, h => by
    obtain ⟨m, rfl⟩ : ∃ m, lvm = m + 1 := ⟨lvm - 1, by omega⟩
    rw [f__law_is_rule]
    have flat : isiD .tuple d = some false → ((fBody 1 3 (evB (Y m) b__law_is_rule)) [.dat d] = some (.bool false, [.dat d])) := fun k1 => by
      refine fb_ret (en' := [some (.dat d), none, none]) rfl (B_ret ?_) rfl
      simp [evS, evB, evT, evTs, fIf, fOr, fNot, fBool, evE, fLit, fSeq2, aft, fRet, datS, boolS, List.replicate, evO, fIsi, fSlotC, isSet, Pf.rs, Pf.rsS, k1]
    cases n with
    | zero =>
      show _ = some (PyData.bool false, _)
      refine flat ?_
      rcases h with rfl | ⟨i, rfl⟩ | ⟨b, rfl⟩ | ⟨s, rfl, h⟩ <;> rfl
    | succ n =>
      rcases h with h | ⟨ds, rfl | rfl, hl, hx⟩
      · have e : isR (n + 1) d = false := by rcases h with rfl | ⟨i, rfl⟩ | ⟨b, rfl⟩ | ⟨s, rfl, h⟩ <;> rfl
        rw [e]
        refine flat ?_
        rcases h with rfl | ⟨i, rfl⟩ | ⟨b, rfl⟩ | ⟨s, rfl, h⟩ <;> rfl
      · have other : ∀ ds : List D, (ds.length : Int) ≠ 2 → (ds.length : Int) ≠ 3 → ((fBody 1 3 (evB (Y m) b__law_is_rule)) [.dat (.tuple ds)] = some (.bool false, [.dat (.tuple ds)])) := fun ds z2 z3 => by
          have e23 := inD_23 (ds.length : Int)
          rw [decide_eq_false (by omega)] at e23
          have l2 : (2 : Nat) ≤ lim := by decide
          refine fb_ret (en' := [some (.dat (.tuple ds)), none, none]) rfl (B_ret ?_) rfl
          simp [evB, evS, evE, evL, evO, evOs, evEs, evT, evTs, evI, evC, evP, evDd, evPs, evWs, evG, evGs, fSeq2, aft, fNext, fRet, fIf, fAsg, fAsgL, fAsgT, fAsgD, fPar, fWv, fWl, fW0, setWs, wiS, fLit, fVar, Pf.slotAt, varS, fBin, fNeg, negD, fCmp, fChain, fAnd, fOr, fNot, fBool, boolS, fTest, fIte, fAt, fAtD, fCut, fPart, fNoPart, fOs, fOs0, fFn, fVs, fVs0, fTup, fFresh, fDisp, fTupOf, fListOf, fIsi, fCall, fCallW, fVal, fSlotC, isSet, Pf.rs, Pf.rsS, Pf.rsV, rsAll, rsD, keyD, datS, datsS, setS_s, setS_dv, setS_ol, setS_dat, setS_none, setS_olst, setS_rlst, setS_fdic, setS_odic, gN, gT, gs0, gsC, lenIs, binD, add_ii, subD, mulD, fdivD, modD, cmpD, ordD, isD, isNn, isNi, isNb, isNt, isNl, isiD, at_l, at_t, fn_lenL, fn_lenT, fn_max2, fn_abs, fn_int, fn_intb, intV, seq_l, seq_t, lstV, fApp, fAugD, fAugI, olS, odS, odH, inS, getElem_s, List.replicate, e23, l2]
        have kids : ∀ (b : D), b ∈ ds → ∀ rs, b = .tuple rs → ∀ y ∈ rs, ((Y m).f 20).2 [.dat y] = some (.bool (isR n y), [.dat y]) := fun b hb rs e y hy => by
          have hb := hx b hb
          rw [e] at hb
          cases n with
          | zero => rcases hb with z | ⟨i, z⟩ | ⟨b, z⟩ | ⟨s, z, h⟩ <;> cases z
          | succ n =>
            rcases hb with (z | ⟨i, z⟩ | ⟨b, z⟩ | ⟨s, z, h⟩) | ⟨ds', z | z, hl', hx'⟩
            · cases z
            · cases z
            · cases z
            · cases z
            · cases z
              exact law_is_rule_lv (n := n + 1) (lvm := m) (by omega) (by omega) ((hx' y hy).up)
            · cases z
        match ds, hl, hx, kids with
        | [], _, _, _ => exact other [] (by decide) (by decide)
        | [u], _, _, _ => exact other [u] (by simp) (by simp)
        | [a, b], _, hx, kids =>
          have ha := hx a (by simp)
          have hb := hx b (by simp)
          obtain ⟨o, ho⟩ := law_is_rule_gen (m := m) (n := n) (by omega) (L := 2) (d := .tuple [a, b]) rfl (.inl rfl) rfl (ha.up.shD.shp (by omega)) ha.nd rfl rfl rfl (fun z => by cases z) hb.nd (q := n) (by omega) hb (kids b (by simp))
          exact fb_ret (en' := [some (.dat (.tuple [a, b])), o, none]) rfl ho rfl
        | [a, x, b], _, hx, kids =>
          have ha := hx a (by simp)
          have hb := hx b (by simp)
          obtain ⟨o, ho⟩ := law_is_rule_gen (m := m) (n := n) (by omega) (L := 3) (d := .tuple [a, x, b]) rfl (.inr rfl) rfl (ha.up.shD.shp (by omega)) ha.nd rfl rfl rfl (fun _ => rfl) (hx x (by simp)).nd (q := n) (by omega) hb (kids b (by simp))
          exact fb_ret (en' := [some (.dat (.tuple [a, x, b])), o, none]) rfl ho rfl
        | a :: b :: c :: d :: r, _, _, _ => exact other _ (by simp only [List.length_cons]; omega) (by simp only [List.length_cons]; omega)
      · exact flat rfl
termination_by n => n


end K26

set_option maxHeartbeats 4000000
namespace K26
open PySem L2 Pf
/-! ### rules that the law makes -/
def R0 (d : D) : Prop := (∃ c : Int, 0 ≤ c ∧ c < 5 ∧ d = .tuple [.str "course", .int c]) ∨ ∃ (p : Int) (cs : List Int), cs.length ≤ 5 ∧ (∀ c ∈ cs, 0 ≤ c ∧ c < 5) ∧ d = .tuple [.str "points", .int p, tl cs]
def RR : Nat → D → Prop
  | 0, d => R0 d
  | n + 1, d => R0 d ∨ (∃ rs, d = .tuple [.str "all", .tuple rs] ∧ rs.length ≤ 3 ∧ ∀ r ∈ rs, RR n r) ∨ ∃ (k : Int) (rs : List D), d = .tuple [.str "of", .int k, .tuple rs] ∧ rs.length ≤ 3 ∧ ∀ r ∈ rs, RR n r
def Rd : Nat → D → Prop
  | 0, d => (∃ i, d = .int i) ∨ ∃ s, d = .str s ∧ shp (.str s) = true
  | n + 1, d => ((∃ i, d = .int i) ∨ ∃ s, d = .str s ∧ shp (.str s) = true) ∨ ∃ ds, d = .tuple ds ∧ ds.length ≤ 5 ∧ ∀ x ∈ ds, Rd n x
theorem Rd.int (n : Nat) (i : Int) : Rd n (.int i) := by
  cases n with
  | zero => exact .inl ⟨i, rfl⟩
  | succ n => exact .inl (.inl ⟨i, rfl⟩)
theorem Rd.str (n : Nat) {s : Str} (h : shp (.str s) = true) : Rd n (.str s) := by
  cases n with
  | zero => exact .inr ⟨s, rfl, h⟩
  | succ n => exact .inl (.inr ⟨s, rfl, h⟩)
theorem Rd.tup {n : Nat} {ds : List D} (hl : ds.length ≤ 5) (h : ∀ x ∈ ds, Rd n x) : Rd (n + 1) (.tuple ds) := .inr ⟨ds, rfl, hl, h⟩
theorem Rd.up : ∀ {n : Nat} {d : D}, Rd n d → Rd (n + 1) d
  | 0, d, h => .inl h
  | n + 1, d, h => by
    rcases h with h | ⟨ds, h, hl, hx⟩
    · exact .inl h
    · exact .inr ⟨ds, h, hl, fun x hx' => (hx x hx').up⟩
theorem Rd.ups {n : Nat} {d : D} (h : Rd n d) : ∀ k, Rd (n + k) d
  | 0 => h
  | k + 1 => (h.ups k).up
theorem Rd.nd : ∀ {n : Nat} {d : D}, Rd n d → Nd n d
  | 0, d, h => by
    rcases h with ⟨i, rfl⟩ | ⟨s, rfl, h⟩
    · exact .inr (.inl ⟨i, rfl⟩)
    · exact .inr (.inr (.inr ⟨s, rfl, h⟩))
  | n + 1, d, h => by
    rcases h with (⟨i, rfl⟩ | ⟨s, rfl, h⟩) | ⟨ds, rfl, hl, hx⟩
    · exact .inl (.inr (.inl ⟨i, rfl⟩))
    · exact .inl (.inr (.inr (.inr ⟨s, rfl, h⟩)))
    · exact .inr ⟨ds, .inl rfl, by omega, fun x hx' => (hx x hx').nd⟩
theorem R0.rd {d : D} (h : R0 d) : Rd 2 d := by
  rcases h with ⟨c, _, _, rfl⟩ | ⟨p, cs, hl, _, rfl⟩
  · refine Rd.tup (by simp) fun x hx => ?_
    rcases List.mem_cons.mp hx with rfl | hx
    · exact Rd.str _ shp_s1
    · rw [List.mem_singleton.mp hx]; exact Rd.int _ _
  · refine Rd.tup (by simp) fun x hx => ?_
    rcases List.mem_cons.mp hx with rfl | hx
    · exact Rd.str _ shp_s2
    · rcases List.mem_cons.mp hx with rfl | hx
      · exact Rd.int _ _
      · rw [List.mem_singleton.mp hx]
        refine Rd.tup (by unfold il; rw [List.length_map]; exact hl) fun y hy => ?_
        obtain ⟨i, _, rfl⟩ := List.mem_map.mp hy
        exact Rd.int _ _
theorem RR.rd : ∀ {n : Nat} {d : D}, RR n d → Rd (2 * n + 2) d
  | 0, d, h => R0.rd h
  | n + 1, d, h => by
    rw [show 2 * (n + 1) + 2 = 2 * n + 2 + 1 + 1 by omega]
    rcases h with h | ⟨rs, rfl, hl, hx⟩ | ⟨k, rs, rfl, hl, hx⟩
    · have := (R0.rd h).ups (2 * n + 2)
      rw [show 2 + (2 * n + 2) = 2 * n + 2 + 1 + 1 by omega] at this
      exact this
    · refine Rd.tup (by simp) fun x hx' => ?_
      rcases List.mem_cons.mp hx' with rfl | hx'
      · exact Rd.str _ shp_s3
      · rw [List.mem_singleton.mp hx']
        exact Rd.tup (by omega) fun y hy => (hx y hy).rd
    · refine Rd.tup (by simp) fun x hx' => ?_
      rcases List.mem_cons.mp hx' with rfl | hx'
      · exact Rd.str _ shp_s4
      · rcases List.mem_cons.mp hx' with rfl | hx'
        · exact Rd.int _ _
        · rw [List.mem_singleton.mp hx']
          exact Rd.tup (by omega) fun y hy => (hx y hy).rd
/-- what a rule asks, by what is taken -/
def pts (pt : Int → Int) (mem : Int → Bool) (cs : List D) : Int := (((cs.map toI).filter mem).map pt).sum
def dn (pt : Int → Int) (mem : Int → Bool) : Nat → D → Bool
  | 0, .tuple [_, .int c] => mem c
  | 0, .tuple [_, .int p, .tuple cs] => decide (p ≤ pts pt mem cs)
  | _ + 1, .tuple [_, .int c] => mem c
  | n + 1, .tuple [_, .tuple rs] => rs.all (dn pt mem n)
  | n + 1, .tuple [a, .int p, .tuple cs] => if isS "points" a = true then decide (p ≤ pts pt mem cs) else decide (p ≤ ((cs.filter (dn pt mem n)).length : Int))
  | _, _ => false
theorem R0.dn {pt : Int → Int} {mem : Int → Bool} {d : D} (h : R0 d) (n : Nat) : dn pt mem n d = dn pt mem 0 d := by
  rcases h with ⟨c, _, _, rfl⟩ | ⟨p, cs, hl, _, rfl⟩
  · cases n <;> rfl
  · cases n with
    | zero => rfl
    | succ n =>
      show (if isS "points" (.str "points") = true then _ else _) = _
      rw [if_pos (by decide)]
      rfl
theorem map_toI (l : List Int) : (il l).map toI = l := by
  unfold il
  rw [List.map_map]
  exact List.map_id _
theorem eS_11 : eqD (.str "course") (.str "course") = some true := by rw [eqD_S shp_s1 shp_s1]; decide
theorem eS_21 : eqD (.str "points") (.str "course") = some false := by rw [eqD_S shp_s2 shp_s1]; decide
theorem eS_22 : eqD (.str "points") (.str "points") = some true := by rw [eqD_S shp_s2 shp_s2]; decide
theorem eS_31 : eqD (.str "all") (.str "course") = some false := by rw [eqD_S shp_s3 shp_s1]; decide
theorem eS_32 : eqD (.str "all") (.str "points") = some false := by rw [eqD_S shp_s3 shp_s2]; decide
theorem eS_33 : eqD (.str "all") (.str "all") = some true := by rw [eqD_S shp_s3 shp_s3]; decide
theorem eS_41 : eqD (.str "of") (.str "course") = some false := by rw [eqD_S shp_s4 shp_s1]; decide
theorem eS_42 : eqD (.str "of") (.str "points") = some false := by rw [eqD_S shp_s4 shp_s2]; decide
theorem eS_43 : eqD (.str "of") (.str "all") = some false := by rw [eqD_S shp_s4 shp_s3]; decide
theorem fn_sumI (l : List Int) : fnD .sum [.list (l.map PyData.int)] = some (.int l.sum) := by
  show (intsOf _).map _ = _
  rw [intsOf_map]
  rfl
theorem all_filt {α : Type} (f : α → Bool) (l : List α) : decide ((l.length : Int) ≤ ((l.filter f).length : Int)) = l.all f := by
  by_cases h : l.all f = true
  · rw [h, List.filter_eq_self.mpr fun x hx => List.all_eq_true.mp h x hx]
    simp
  · rw [Bool.eq_false_iff.mpr h]
    refine decide_eq_false fun z => h (List.all_eq_true.mpr fun x hx => ?_)
    have h1 := List.length_filter_le f l
    have h2 : (l.filter f).length = l.length := by omega
    exact List.length_filter_eq_length_iff.mp h2 x hx
variable {P : List (Key × D)} {pt : Int → Int} {mem : Int → Bool} {tk : List Int}
theorem sum_comp {vs : List Nat} {bd : D → En → Option En} {cond : M Bool} {elt : M SV} {en : En} {cs : List Int} (hc : ∀ c ∈ cs, ∃ en1 en2, bd (.int c) en = some en1 ∧ cond en1 = some (mem c, en2) ∧ if mem c = true then ∃ en3, elt en2 = some (.dat (.int (pt c)), en3) ∧ wipeE en3 vs = en else wipeE en2 vs = en) :
    cLoop vs bd cond elt (il cs) en = some (((cs.filter mem).map pt).map PyData.int, en) := by
  have := comp_map (vs := vs) (bd := bd) (cond := cond) (elt := elt) (f := PyData.int) (g := fun c => PyData.int (pt c)) (p := mem) (en := en) cs hc
  rw [List.map_map]
  exact this
theorem is_done_lv (hP : ∀ c, 0 ≤ c → c < 5 → lookD P (.inl c) = some (.int (pt c))) (hmem : ∀ c, decide (c ∈ tk) = mem c) : ∀ {n lvm : Nat} (hm0 : n + 1 ≤ lvm) {d : D} (h : RR n d), ((Y lvm).f 8).2 [.dat d, .fdic P, .dat (tl tk)] = some (.bool (dn pt mem n d), [.dat d, .fdic P, .dat (tl tk)]) := by
  have hin : ∀ c, inD (.int c) (tl tk) = some (mem c) := fun c => by rw [inD_tl, hmem]
  have base : ∀ {m : Nat} {d : D}, R0 d → fBody 3 6 (evB (Y m) b_is_done) [.dat d, .fdic P, .dat (tl tk)] = some (.bool (dn pt mem 0 d), [.dat d, .fdic P, .dat (tl tk)]) := fun {m} {d} h => by
    rcases h with ⟨c, _, _, rfl⟩ | ⟨p, cs, hl, hcs, rfl⟩
    · have hin := hin c
      have e : dn pt mem 0 (.tuple [.str "course", .int c]) = mem c := rfl
      rw [e]
      generalize tl tk = S at *
      refine fb_ret (en' := [some (.dat (.tuple [.str "course", .int c])), some (.fdic P), some (.dat S), none, none, none]) rfl (B_ret ?_) rfl
      simp [evB, evS, evE, evL, evO, evOs, evEs, evT, evTs, evI, evC, evP, evDd, evPs, evWs, evG, evGs, fSeq2, aft, fNext, fRet, fIf, fAsg, fAsgL, fAsgT, fAsgD, fPar, fWv, fWl, fW0, setWs, wiS, fLit, fVar, Pf.slotAt, varS, fBin, fNeg, negD, fCmp, fChain, fAnd, fOr, fNot, fBool, boolS, fTest, fIte, fAt, fAtD, fCut, fPart, fNoPart, fOs, fOs0, fFn, fVs, fVs0, fTup, fFresh, fDisp, fTupOf, fListOf, fIsi, fCall, fCallW, fVal, fSlotC, isSet, Pf.rs, Pf.rsS, Pf.rsV, rsAll, rsD, keyD, datS, datsS, setS_s, setS_dv, setS_ol, setS_dat, setS_none, setS_olst, setS_rlst, setS_fdic, setS_odic, gN, gT, gs0, gsC, lenIs, binD, add_ii, subD, mulD, fdivD, modD, cmpD, ordD, isD, isNn, isNi, isNb, isNt, isNl, isiD, at_l, at_t, fn_lenL, fn_lenT, fn_max2, fn_abs, fn_int, fn_intb, intV, seq_l, seq_t, lstV, fApp, fAugD, fAugI, olS, odS, odH, inS, getElem_s, List.replicate, at0, at1, eS_11, hin]
    · have e : dn pt mem 0 (.tuple [.str "points", .int p, tl cs]) = decide (p ≤ ((cs.filter mem).map pt).sum) := by
        show decide (p ≤ pts pt mem (il cs)) = _
        unfold pts
        rw [map_toI]
      rw [e]
      have hcomp := sum_comp (pt := pt) (mem := mem) (vs := [5]) (bd := evG (.name 5)) (cond := evC (Y m) c_is_done_1c) (elt := evE (Y m) c_is_done_1e) (en := [some (.dat (.tuple [.str "points", .int p, tl cs])), some (.fdic P), some (.dat (tl tk)), none, none, none]) (cs := cs) fun c hc => by
        have hin := hin c
        have hP := hP c (hcs c hc).1 (hcs c hc).2
        refine ⟨[some (.dat (.tuple [.str "points", .int p, tl cs])), some (.fdic P), some (.dat (tl tk)), none, none, some (.dat (.int c))], [some (.dat (.tuple [.str "points", .int p, tl cs])), some (.fdic P), some (.dat (tl tk)), none, none, some (.dat (.int c))], rfl, ?_, ?_⟩
        · generalize tl tk = S at *
          simp [c_is_done_1c, evB, evS, evE, evL, evO, evOs, evEs, evT, evTs, evI, evC, evP, evDd, evPs, evWs, evG, evGs, fSeq2, aft, fNext, fRet, fIf, fAsg, fAsgL, fAsgT, fAsgD, fPar, fWv, fWl, fW0, setWs, wiS, fLit, fVar, Pf.slotAt, varS, fBin, fNeg, negD, fCmp, fChain, fAnd, fOr, fNot, fBool, boolS, fTest, fIte, fAt, fAtD, fCut, fPart, fNoPart, fOs, fOs0, fFn, fVs, fVs0, fTup, fFresh, fDisp, fTupOf, fListOf, fIsi, fCall, fCallW, fVal, fSlotC, isSet, Pf.rs, Pf.rsS, Pf.rsV, rsAll, rsD, keyD, datS, datsS, setS_s, setS_dv, setS_ol, setS_dat, setS_none, setS_olst, setS_rlst, setS_fdic, setS_odic, gN, gT, gs0, gsC, lenIs, binD, add_ii, subD, mulD, fdivD, modD, cmpD, ordD, isD, isNn, isNi, isNb, isNt, isNl, isiD, at_l, at_t, fn_lenL, fn_lenT, fn_max2, fn_abs, fn_int, fn_intb, intV, seq_l, seq_t, lstV, fApp, fAugD, fAugI, olS, odS, odH, inS, getElem_s, hin]
        · split
          · refine ⟨[some (.dat (.tuple [.str "points", .int p, tl cs])), some (.fdic P), some (.dat (tl tk)), none, none, some (.dat (.int c))], ?_, rfl⟩
            simp [c_is_done_1e, evB, evS, evE, evL, evO, evOs, evEs, evT, evTs, evI, evC, evP, evDd, evPs, evWs, evG, evGs, fSeq2, aft, fNext, fRet, fIf, fAsg, fAsgL, fAsgT, fAsgD, fPar, fWv, fWl, fW0, setWs, wiS, fLit, fVar, Pf.slotAt, varS, fBin, fNeg, negD, fCmp, fChain, fAnd, fOr, fNot, fBool, boolS, fTest, fIte, fAt, fAtD, fCut, fPart, fNoPart, fOs, fOs0, fFn, fVs, fVs0, fTup, fFresh, fDisp, fTupOf, fListOf, fIsi, fCall, fCallW, fVal, fSlotC, isSet, Pf.rs, Pf.rsS, Pf.rsV, rsAll, rsD, keyD, datS, datsS, setS_s, setS_dv, setS_ol, setS_dat, setS_none, setS_olst, setS_rlst, setS_fdic, setS_odic, gN, gT, gs0, gsC, lenIs, binD, add_ii, subD, mulD, fdivD, modD, cmpD, ordD, isD, isNn, isNi, isNb, isNt, isNl, isiD, at_l, at_t, fn_lenL, fn_lenT, fn_max2, fn_abs, fn_int, fn_intb, intV, seq_l, seq_t, lstV, fApp, fAugD, fAugI, olS, odS, odH, inS, getElem_s, hP]
          · rfl
      have hc : evL (Y m) c_is_done_1 [some (.dat (.tuple [.str "points", .int p, tl cs])), some (.fdic P), some (.dat (tl tk)), none, none, none] = some (((cs.filter mem).map pt).map PyData.int, [some (.dat (.tuple [.str "points", .int p, tl cs])), some (.fdic P), some (.dat (tl tk)), none, none, none]) := by
        unfold c_is_done_1
        refine (comp_ev (ds := il cs) (en1 := [some (.dat (.tuple [.str "points", .int p, tl cs])), some (.fdic P), some (.dat (tl tk)), none, none, none]) (en2 := [some (.dat (.tuple [.str "points", .int p, tl cs])), some (.fdic P), some (.dat (tl tk)), none, none, none]) (r := ((cs.filter mem).map pt).map PyData.int) ?_ ?_ ?_).trans rfl
        · have h2 : atI [.str "points", .int p, tl cs] 2 = some (tl cs) := rfl
          have h3 : seqV (tl cs) = some (il cs) := rfl
          unfold c_is_done_1i
          rw [evI]; unfold fSeq
          generalize tl cs = S at *
          simp [evB, evS, evE, evL, evO, evOs, evEs, evT, evTs, evI, evC, evP, evDd, evPs, evWs, evG, evGs, fSeq2, aft, fNext, fRet, fIf, fAsg, fAsgL, fAsgT, fAsgD, fPar, fWv, fWl, fW0, setWs, wiS, fLit, fVar, Pf.slotAt, varS, fBin, fNeg, negD, fCmp, fChain, fAnd, fOr, fNot, fBool, boolS, fTest, fIte, fAt, fAtD, fCut, fPart, fNoPart, fOs, fOs0, fFn, fVs, fVs0, fTup, fFresh, fDisp, fTupOf, fListOf, fIsi, fCall, fCallW, fVal, fSlotC, isSet, Pf.rs, Pf.rsS, Pf.rsV, rsAll, rsD, keyD, datS, datsS, setS_s, setS_dv, setS_ol, setS_dat, setS_none, setS_olst, setS_rlst, setS_fdic, setS_odic, gN, gT, gs0, gsC, lenIs, binD, add_ii, subD, mulD, fdivD, modD, cmpD, ordD, isD, isNn, isNi, isNb, isNt, isNl, isiD, at_l, at_t, fn_lenL, fn_lenT, fn_max2, fn_abs, fn_int, fn_intb, intV, seq_l, seq_t, lstV, fApp, fAugD, fAugI, olS, odS, odH, inS, getElem_s, h2, h3]
        · unfold il; rw [List.length_map]; unfold lim; omega
        · exact hcomp
      have hs := fn_sumI ((cs.filter mem).map pt)
      generalize ((cs.filter mem).map pt).map PyData.int = bs at *
      generalize ((cs.filter mem).map pt).sum = v at *
      generalize tl tk = S at *
      generalize tl cs = S2 at *
      refine fb_ret (en' := [some (.dat (.tuple [.str "points", .int p, S2])), some (.fdic P), some (.dat S), none, none, none]) rfl (B_next (en1 := [some (.dat (.tuple [.str "points", .int p, S2])), some (.fdic P), some (.dat S), none, none, none]) ?_ (B_ret ?_)) rfl
      · simp [evB, evS, evE, evL, evO, evOs, evEs, evT, evTs, evI, evC, evP, evDd, evPs, evWs, evG, evGs, fSeq2, aft, fNext, fRet, fIf, fAsg, fAsgL, fAsgT, fAsgD, fPar, fWv, fWl, fW0, setWs, wiS, fLit, fVar, Pf.slotAt, varS, fBin, fNeg, negD, fCmp, fChain, fAnd, fOr, fNot, fBool, boolS, fTest, fIte, fAt, fAtD, fCut, fPart, fNoPart, fOs, fOs0, fFn, fVs, fVs0, fTup, fFresh, fDisp, fTupOf, fListOf, fIsi, fCall, fCallW, fVal, fSlotC, isSet, Pf.rs, Pf.rsS, Pf.rsV, rsAll, rsD, keyD, datS, datsS, setS_s, setS_dv, setS_ol, setS_dat, setS_none, setS_olst, setS_rlst, setS_fdic, setS_odic, gN, gT, gs0, gsC, lenIs, binD, add_ii, subD, mulD, fdivD, modD, cmpD, ordD, isD, isNn, isNi, isNb, isNt, isNl, isiD, at_l, at_t, fn_lenL, fn_lenT, fn_max2, fn_abs, fn_int, fn_intb, intV, seq_l, seq_t, lstV, fApp, fAugD, fAugI, olS, odS, odH, inS, getElem_s, List.replicate, at0, at1, eS_21]
      · simp [evB, evS, evE, evL, evO, evOs, evEs, evT, evTs, evI, evC, evP, evDd, evPs, evWs, evG, evGs, fSeq2, aft, fNext, fRet, fIf, fAsg, fAsgL, fAsgT, fAsgD, fPar, fWv, fWl, fW0, setWs, wiS, fLit, fVar, Pf.slotAt, varS, fBin, fNeg, negD, fCmp, fChain, fAnd, fOr, fNot, fBool, boolS, fTest, fIte, fAt, fAtD, fCut, fPart, fNoPart, fOs, fOs0, fFn, fVs, fVs0, fTup, fFresh, fDisp, fTupOf, fListOf, fIsi, fCall, fCallW, fVal, fSlotC, isSet, Pf.rs, Pf.rsS, Pf.rsV, rsAll, rsD, keyD, datS, datsS, setS_s, setS_dv, setS_ol, setS_dat, setS_none, setS_olst, setS_rlst, setS_fdic, setS_odic, gN, gT, gs0, gsC, lenIs, binD, add_ii, subD, mulD, fdivD, modD, cmpD, ordD, isD, isNn, isNi, isNb, isNt, isNl, isiD, at_l, at_t, fn_lenL, fn_lenT, fn_max2, fn_abs, fn_int, fn_intb, intV, seq_l, seq_t, lstV, fApp, fAugD, fAugI, olS, odS, odH, inS, getElem_s, at0, at1, eS_22, hc, hs]
  intro n
  induction n with
  | zero =>
    intro lvm hm0 d h
    obtain ⟨m, rfl⟩ : ∃ m, lvm = m + 1 := ⟨lvm - 1, by omega⟩
    rw [f_is_done]
    exact base h
  | succ n ih =>
    intro lvm hm0 d h
    obtain ⟨m, rfl⟩ : ∃ m, lvm = m + 1 := ⟨lvm - 1, by omega⟩
    rw [f_is_done]
    -- the rules within
    have inner : ∀ {d : D} {rs : List D}, atD d (.int (-1)) = some (.tuple rs) → rs.length ≤ 3 → (∀ r ∈ rs, RR n r) → evL (Y m) c_is_done_2 [some (.dat d), some (.fdic P), some (.dat (tl tk)), none, none, none] = some ((rs.filter (dn pt mem n)).map (fun _ => PyData.int 1), [some (.dat d), some (.fdic P), some (.dat (tl tk)), none, none, none]) := fun {d} {rs} hb hl hr => by
      have hcomp := comp_map (vs := [4]) (bd := evG (.name 4)) (cond := evC (Y m) c_is_done_2c) (elt := evE (Y m) c_is_done_2e) (f := fun x : D => x) (g := fun _ => PyData.int 1) (p := dn pt mem n) (en := [some (.dat d), some (.fdic P), some (.dat (tl tk)), none, none, none]) rs fun x hx' => by
        have h1 := ih (lvm := m) (by omega) (hr x hx')
        refine ⟨[some (.dat d), some (.fdic P), some (.dat (tl tk)), none, some (.dat x), none], [some (.dat d), some (.fdic P), some (.dat (tl tk)), none, some (.dat x), none], rfl, ?_, ?_⟩
        · generalize tl tk = S at *
          simp [c_is_done_2c, evB, evS, evE, evL, evO, evOs, evEs, evT, evTs, evI, evC, evP, evDd, evPs, evWs, evG, evGs, fSeq2, aft, fNext, fRet, fIf, fAsg, fAsgL, fAsgT, fAsgD, fPar, fWv, fWl, fW0, setWs, wiS, fLit, fVar, Pf.slotAt, varS, fBin, fNeg, negD, fCmp, fChain, fAnd, fOr, fNot, fBool, boolS, fTest, fIte, fAt, fAtD, fCut, fPart, fNoPart, fOs, fOs0, fFn, fVs, fVs0, fTup, fFresh, fDisp, fTupOf, fListOf, fIsi, fCall, fCallW, fVal, fSlotC, isSet, Pf.rs, Pf.rsS, Pf.rsV, rsAll, rsD, keyD, datS, datsS, setS_s, setS_dv, setS_ol, setS_dat, setS_none, setS_olst, setS_rlst, setS_fdic, setS_odic, gN, gT, gs0, gsC, lenIs, binD, add_ii, subD, mulD, fdivD, modD, cmpD, ordD, isD, isNn, isNi, isNb, isNt, isNl, isiD, at_l, at_t, fn_lenL, fn_lenT, fn_max2, fn_abs, fn_int, fn_intb, intV, seq_l, seq_t, lstV, fApp, fAugD, fAugI, olS, odS, odH, inS, getElem_s, np_is_done, h1]
        · split
          · exact ⟨[some (.dat d), some (.fdic P), some (.dat (tl tk)), none, some (.dat x), none], by simp [c_is_done_2e, evB, evS, evE, evL, evO, evOs, evEs, evT, evTs, evI, evC, evP, evDd, evPs, evWs, evG, evGs, fSeq2, aft, fNext, fRet, fIf, fAsg, fAsgL, fAsgT, fAsgD, fPar, fWv, fWl, fW0, setWs, wiS, fLit, fVar, Pf.slotAt, varS, fBin, fNeg, negD, fCmp, fChain, fAnd, fOr, fNot, fBool, boolS, fTest, fIte, fAt, fAtD, fCut, fPart, fNoPart, fOs, fOs0, fFn, fVs, fVs0, fTup, fFresh, fDisp, fTupOf, fListOf, fIsi, fCall, fCallW, fVal, fSlotC, isSet, Pf.rs, Pf.rsS, Pf.rsV, rsAll, rsD, keyD, datS, datsS, setS_s, setS_dv, setS_ol, setS_dat, setS_none, setS_olst, setS_rlst, setS_fdic, setS_odic, gN, gT, gs0, gsC, lenIs, binD, add_ii, subD, mulD, fdivD, modD, cmpD, ordD, isD, isNn, isNi, isNb, isNt, isNl, isiD, at_l, at_t, fn_lenL, fn_lenT, fn_max2, fn_abs, fn_int, fn_intb, intV, seq_l, seq_t, lstV, fApp, fAugD, fAugI, olS, odS, odH, inS, getElem_s], rfl⟩
          · rfl
      rw [show rs.map (fun x : D => x) = rs from List.map_id _] at hcomp
      unfold c_is_done_2
      refine (comp_ev (ds := rs) (en1 := [some (.dat d), some (.fdic P), some (.dat (tl tk)), none, none, none]) (en2 := [some (.dat d), some (.fdic P), some (.dat (tl tk)), none, none, none]) (r := (rs.filter (dn pt mem n)).map (fun _ => PyData.int 1)) ?_ ?_ ?_).trans rfl
      · unfold c_is_done_2i
        rw [evI]; unfold fSeq
        simp [evB, evS, evE, evL, evO, evOs, evEs, evT, evTs, evI, evC, evP, evDd, evPs, evWs, evG, evGs, fSeq2, aft, fNext, fRet, fIf, fAsg, fAsgL, fAsgT, fAsgD, fPar, fWv, fWl, fW0, setWs, wiS, fLit, fVar, Pf.slotAt, varS, fBin, fNeg, negD, fCmp, fChain, fAnd, fOr, fNot, fBool, boolS, fTest, fIte, fAt, fAtD, fCut, fPart, fNoPart, fOs, fOs0, fFn, fVs, fVs0, fTup, fFresh, fDisp, fTupOf, fListOf, fIsi, fCall, fCallW, fVal, fSlotC, isSet, Pf.rs, Pf.rsS, Pf.rsV, rsAll, rsD, keyD, datS, datsS, setS_s, setS_dv, setS_ol, setS_dat, setS_none, setS_olst, setS_rlst, setS_fdic, setS_odic, gN, gT, gs0, gsC, lenIs, binD, add_ii, subD, mulD, fdivD, modD, cmpD, ordD, isD, isNn, isNi, isNb, isNt, isNl, isiD, at_l, at_t, fn_lenL, fn_lenT, fn_max2, fn_abs, fn_int, fn_intb, intV, seq_l, seq_t, lstV, fApp, fAugD, fAugI, olS, odS, odH, inS, getElem_s, negD, hb]
      · unfold lim; omega
      · exact hcomp
    rcases h with h | ⟨rs, rfl, hl, hx⟩ | ⟨k, rs, rfl, hl, hx⟩
    · rw [h.dn (n + 1)]
      exact base h
    · have hb : atD (.tuple [.str "all", .tuple rs]) (.int (-1)) = some (.tuple rs) := rfl
      have hc := inner hb hl hx
      have e : dn pt mem (n + 1) (.tuple [.str "all", .tuple rs]) = rs.all (dn pt mem n) := rfl
      rw [e, ← all_filt]
      have hln : fnD .len [.list ((rs.filter (dn pt mem n)).map (fun _ => PyData.int 1))] = some (.int ((rs.filter (dn pt mem n)).length : Int)) := by
        show some (PyData.int _) = _
        rw [List.length_map]
      generalize (rs.filter (dn pt mem n)).map (fun _ => PyData.int 1) = bs at *
      generalize (rs.filter (dn pt mem n)).length = q at *
      generalize tl tk = S at *
      refine fb_ret (en' := [some (.dat (.tuple [.str "all", .tuple rs])), some (.fdic P), some (.dat S), some (.dat (.int (q : Int))), none, none]) rfl (B_next (en1 := [some (.dat (.tuple [.str "all", .tuple rs])), some (.fdic P), some (.dat S), none, none, none]) ?_ (B_next (en1 := [some (.dat (.tuple [.str "all", .tuple rs])), some (.fdic P), some (.dat S), none, none, none]) ?_ (B_next (en1 := [some (.dat (.tuple [.str "all", .tuple rs])), some (.fdic P), some (.dat S), some (.dat (.int (q : Int))), none, none]) ?_ (B_ret ?_)))) rfl
      · simp [evB, evS, evE, evL, evO, evOs, evEs, evT, evTs, evI, evC, evP, evDd, evPs, evWs, evG, evGs, fSeq2, aft, fNext, fRet, fIf, fAsg, fAsgL, fAsgT, fAsgD, fPar, fWv, fWl, fW0, setWs, wiS, fLit, fVar, Pf.slotAt, varS, fBin, fNeg, negD, fCmp, fChain, fAnd, fOr, fNot, fBool, boolS, fTest, fIte, fAt, fAtD, fCut, fPart, fNoPart, fOs, fOs0, fFn, fVs, fVs0, fTup, fFresh, fDisp, fTupOf, fListOf, fIsi, fCall, fCallW, fVal, fSlotC, isSet, Pf.rs, Pf.rsS, Pf.rsV, rsAll, rsD, keyD, datS, datsS, setS_s, setS_dv, setS_ol, setS_dat, setS_none, setS_olst, setS_rlst, setS_fdic, setS_odic, gN, gT, gs0, gsC, lenIs, binD, add_ii, subD, mulD, fdivD, modD, cmpD, ordD, isD, isNn, isNi, isNb, isNt, isNl, isiD, at_l, at_t, fn_lenL, fn_lenT, fn_max2, fn_abs, fn_int, fn_intb, intV, seq_l, seq_t, lstV, fApp, fAugD, fAugI, olS, odS, odH, inS, getElem_s, List.replicate, at0, at1, eS_31]
      · simp [evB, evS, evE, evL, evO, evOs, evEs, evT, evTs, evI, evC, evP, evDd, evPs, evWs, evG, evGs, fSeq2, aft, fNext, fRet, fIf, fAsg, fAsgL, fAsgT, fAsgD, fPar, fWv, fWl, fW0, setWs, wiS, fLit, fVar, Pf.slotAt, varS, fBin, fNeg, negD, fCmp, fChain, fAnd, fOr, fNot, fBool, boolS, fTest, fIte, fAt, fAtD, fCut, fPart, fNoPart, fOs, fOs0, fFn, fVs, fVs0, fTup, fFresh, fDisp, fTupOf, fListOf, fIsi, fCall, fCallW, fVal, fSlotC, isSet, Pf.rs, Pf.rsS, Pf.rsV, rsAll, rsD, keyD, datS, datsS, setS_s, setS_dv, setS_ol, setS_dat, setS_none, setS_olst, setS_rlst, setS_fdic, setS_odic, gN, gT, gs0, gsC, lenIs, binD, add_ii, subD, mulD, fdivD, modD, cmpD, ordD, isD, isNn, isNi, isNb, isNt, isNl, isiD, at_l, at_t, fn_lenL, fn_lenT, fn_max2, fn_abs, fn_int, fn_intb, intV, seq_l, seq_t, lstV, fApp, fAugD, fAugI, olS, odS, odH, inS, getElem_s, at0, at1, eS_32]
      · simp [evS, fAsg, evE, fFn, evOs, fOs, fOs0, evO, fVal, fFresh, hc, rsAll, Pf.rs, Pf.rsV, hln, setS_s, setS_none]
      · simp [evB, evS, evE, evL, evO, evOs, evEs, evT, evTs, evI, evC, evP, evDd, evPs, evWs, evG, evGs, fSeq2, aft, fNext, fRet, fIf, fAsg, fAsgL, fAsgT, fAsgD, fPar, fWv, fWl, fW0, setWs, wiS, fLit, fVar, Pf.slotAt, varS, fBin, fNeg, negD, fCmp, fChain, fAnd, fOr, fNot, fBool, boolS, fTest, fIte, fAt, fAtD, fCut, fPart, fNoPart, fOs, fOs0, fFn, fVs, fVs0, fTup, fFresh, fDisp, fTupOf, fListOf, fIsi, fCall, fCallW, fVal, fSlotC, isSet, Pf.rs, Pf.rsS, Pf.rsV, rsAll, rsD, keyD, datS, datsS, setS_s, setS_dv, setS_ol, setS_dat, setS_none, setS_olst, setS_rlst, setS_fdic, setS_odic, gN, gT, gs0, gsC, lenIs, binD, add_ii, subD, mulD, fdivD, modD, cmpD, ordD, isD, isNn, isNi, isNb, isNt, isNl, isiD, at_l, at_t, fn_lenL, fn_lenT, fn_max2, fn_abs, fn_int, fn_intb, intV, seq_l, seq_t, lstV, fApp, fAugD, fAugI, olS, odS, odH, inS, getElem_s, at0, at1, eS_33]
    · have hb : atD (.tuple [.str "of", .int k, .tuple rs]) (.int (-1)) = some (.tuple rs) := rfl
      have hc := inner hb hl hx
      have e : dn pt mem (n + 1) (.tuple [.str "of", .int k, .tuple rs]) = decide (k ≤ ((rs.filter (dn pt mem n)).length : Int)) := by
        show (if isS "points" (.str "of") = true then _ else _) = _
        rw [if_neg (by decide)]
      rw [e]
      have hln : fnD .len [.list ((rs.filter (dn pt mem n)).map (fun _ => PyData.int 1))] = some (.int ((rs.filter (dn pt mem n)).length : Int)) := by
        show some (PyData.int _) = _
        rw [List.length_map]
      generalize (rs.filter (dn pt mem n)).map (fun _ => PyData.int 1) = bs at *
      generalize (rs.filter (dn pt mem n)).length = q at *
      generalize tl tk = S at *
      refine fb_ret (en' := [some (.dat (.tuple [.str "of", .int k, .tuple rs])), some (.fdic P), some (.dat S), some (.dat (.int (q : Int))), none, none]) rfl (B_next (en1 := [some (.dat (.tuple [.str "of", .int k, .tuple rs])), some (.fdic P), some (.dat S), none, none, none]) ?_ (B_next (en1 := [some (.dat (.tuple [.str "of", .int k, .tuple rs])), some (.fdic P), some (.dat S), none, none, none]) ?_ (B_next (en1 := [some (.dat (.tuple [.str "of", .int k, .tuple rs])), some (.fdic P), some (.dat S), some (.dat (.int (q : Int))), none, none]) ?_ (B_ret ?_)))) rfl
      · simp [evB, evS, evE, evL, evO, evOs, evEs, evT, evTs, evI, evC, evP, evDd, evPs, evWs, evG, evGs, fSeq2, aft, fNext, fRet, fIf, fAsg, fAsgL, fAsgT, fAsgD, fPar, fWv, fWl, fW0, setWs, wiS, fLit, fVar, Pf.slotAt, varS, fBin, fNeg, negD, fCmp, fChain, fAnd, fOr, fNot, fBool, boolS, fTest, fIte, fAt, fAtD, fCut, fPart, fNoPart, fOs, fOs0, fFn, fVs, fVs0, fTup, fFresh, fDisp, fTupOf, fListOf, fIsi, fCall, fCallW, fVal, fSlotC, isSet, Pf.rs, Pf.rsS, Pf.rsV, rsAll, rsD, keyD, datS, datsS, setS_s, setS_dv, setS_ol, setS_dat, setS_none, setS_olst, setS_rlst, setS_fdic, setS_odic, gN, gT, gs0, gsC, lenIs, binD, add_ii, subD, mulD, fdivD, modD, cmpD, ordD, isD, isNn, isNi, isNb, isNt, isNl, isiD, at_l, at_t, fn_lenL, fn_lenT, fn_max2, fn_abs, fn_int, fn_intb, intV, seq_l, seq_t, lstV, fApp, fAugD, fAugI, olS, odS, odH, inS, getElem_s, List.replicate, at0, at1, eS_41]
      · simp [evB, evS, evE, evL, evO, evOs, evEs, evT, evTs, evI, evC, evP, evDd, evPs, evWs, evG, evGs, fSeq2, aft, fNext, fRet, fIf, fAsg, fAsgL, fAsgT, fAsgD, fPar, fWv, fWl, fW0, setWs, wiS, fLit, fVar, Pf.slotAt, varS, fBin, fNeg, negD, fCmp, fChain, fAnd, fOr, fNot, fBool, boolS, fTest, fIte, fAt, fAtD, fCut, fPart, fNoPart, fOs, fOs0, fFn, fVs, fVs0, fTup, fFresh, fDisp, fTupOf, fListOf, fIsi, fCall, fCallW, fVal, fSlotC, isSet, Pf.rs, Pf.rsS, Pf.rsV, rsAll, rsD, keyD, datS, datsS, setS_s, setS_dv, setS_ol, setS_dat, setS_none, setS_olst, setS_rlst, setS_fdic, setS_odic, gN, gT, gs0, gsC, lenIs, binD, add_ii, subD, mulD, fdivD, modD, cmpD, ordD, isD, isNn, isNi, isNb, isNt, isNl, isiD, at_l, at_t, fn_lenL, fn_lenT, fn_max2, fn_abs, fn_int, fn_intb, intV, seq_l, seq_t, lstV, fApp, fAugD, fAugI, olS, odS, odH, inS, getElem_s, at0, at1, eS_42]
      · simp [evS, fAsg, evE, fFn, evOs, fOs, fOs0, evO, fVal, fFresh, hc, rsAll, Pf.rs, Pf.rsV, hln, setS_s, setS_none]
      · simp [evB, evS, evE, evL, evO, evOs, evEs, evT, evTs, evI, evC, evP, evDd, evPs, evWs, evG, evGs, fSeq2, aft, fNext, fRet, fIf, fAsg, fAsgL, fAsgT, fAsgD, fPar, fWv, fWl, fW0, setWs, wiS, fLit, fVar, Pf.slotAt, varS, fBin, fNeg, negD, fCmp, fChain, fAnd, fOr, fNot, fBool, boolS, fTest, fIte, fAt, fAtD, fCut, fPart, fNoPart, fOs, fOs0, fFn, fVs, fVs0, fTup, fFresh, fDisp, fTupOf, fListOf, fIsi, fCall, fCallW, fVal, fSlotC, isSet, Pf.rs, Pf.rsS, Pf.rsV, rsAll, rsD, keyD, datS, datsS, setS_s, setS_dv, setS_ol, setS_dat, setS_none, setS_olst, setS_rlst, setS_fdic, setS_odic, gN, gT, gs0, gsC, lenIs, binD, add_ii, subD, mulD, fdivD, modD, cmpD, ordD, isD, isNn, isNi, isNb, isNt, isNl, isiD, at_l, at_t, fn_lenL, fn_lenT, fn_max2, fn_abs, fn_int, fn_intb, intV, seq_l, seq_t, lstV, fApp, fAugD, fAugI, olS, odS, odH, inS, getElem_s, at0, at1, eS_43]


end K26

set_option maxHeartbeats 4000000
namespace K26
open PySem L2 Pf
variable {P : List (Key × D)} {pt : Int → Int} {mem : Int → Bool} {tk : List Int}
theorem law_done_lv (hP : ∀ c, 0 ≤ c → c < 5 → lookD P (.inl c) = some (.int (pt c))) (hmem : ∀ c, decide (c ∈ tk) = mem c) : ∀ {n lvm : Nat} (hn : n ≤ 20) (hm0 : n + 1 ≤ lvm) {d : D} (h : RR n d), ((Y lvm).f 21).2 [.dat d, .fdic P, .dat (tl tk)] = some (.bool (dn pt mem n d), [.dat d, .fdic P, .dat (tl tk)]) := by
  have hin : ∀ c, inD (.int c) (tl tk) = some (mem c) := fun c => by rw [inD_tl, hmem]
  have base : ∀ {m : Nat} {d : D}, R0 d → fBody 3 5 (evB (Y m) b__law_done) [.dat d, .fdic P, .dat (tl tk)] = some (.bool (dn pt mem 0 d), [.dat d, .fdic P, .dat (tl tk)]) := fun {m} {d} h => by
    rcases h with ⟨c, _, _, rfl⟩ | ⟨p, cs, hl, hcs, rfl⟩
    · have hin := hin c
      have e : dn pt mem 0 (.tuple [.str "course", .int c]) = mem c := rfl
      rw [e]
      generalize tl tk = S at *
      refine fb_ret (en' := [some (.dat (.tuple [.str "course", .int c])), some (.fdic P), some (.dat S), none, none]) rfl (B_ret ?_) rfl
      simp [evB, evS, evE, evL, evO, evOs, evEs, evT, evTs, evI, evC, evP, evDd, evPs, evWs, evG, evGs, fSeq2, aft, fNext, fRet, fIf, fAsg, fAsgL, fAsgT, fAsgD, fPar, fWv, fWl, fW0, setWs, wiS, fLit, fVar, Pf.slotAt, varS, fBin, fNeg, negD, fCmp, fChain, fAnd, fOr, fNot, fBool, boolS, fTest, fIte, fAt, fAtD, fCut, fPart, fNoPart, fOs, fOs0, fFn, fVs, fVs0, fTup, fFresh, fDisp, fTupOf, fListOf, fIsi, fCall, fCallW, fVal, fSlotC, isSet, Pf.rs, Pf.rsS, Pf.rsV, rsAll, rsD, keyD, datS, datsS, setS_s, setS_dv, setS_ol, setS_dat, setS_none, setS_olst, setS_rlst, setS_fdic, setS_odic, gN, gT, gs0, gsC, lenIs, binD, add_ii, subD, mulD, fdivD, modD, cmpD, ordD, isD, isNn, isNi, isNb, isNt, isNl, isiD, at_l, at_t, fn_lenL, fn_lenT, fn_max2, fn_abs, fn_int, fn_intb, intV, seq_l, seq_t, lstV, fApp, fAugD, fAugI, olS, odS, odH, inS, getElem_s, List.replicate, at0, at1, eS_11, hin]
    · have e : dn pt mem 0 (.tuple [.str "points", .int p, tl cs]) = decide (p ≤ ((cs.filter mem).map pt).sum) := by
        show decide (p ≤ pts pt mem (il cs)) = _
        unfold pts
        rw [map_toI]
      rw [e]
      have hcomp := sum_comp (pt := pt) (mem := mem) (vs := [4]) (bd := evG (.name 4)) (cond := evC (Y m) c__law_done_1c) (elt := evE (Y m) c__law_done_1e) (en := [some (.dat (.tuple [.str "points", .int p, tl cs])), some (.fdic P), some (.dat (tl tk)), none, none]) (cs := cs) fun c hc => by
        have hin := hin c
        have hP := hP c (hcs c hc).1 (hcs c hc).2
        refine ⟨[some (.dat (.tuple [.str "points", .int p, tl cs])), some (.fdic P), some (.dat (tl tk)), none, some (.dat (.int c))], [some (.dat (.tuple [.str "points", .int p, tl cs])), some (.fdic P), some (.dat (tl tk)), none, some (.dat (.int c))], rfl, ?_, ?_⟩
        · generalize tl tk = S at *
          simp [c__law_done_1c, evB, evS, evE, evL, evO, evOs, evEs, evT, evTs, evI, evC, evP, evDd, evPs, evWs, evG, evGs, fSeq2, aft, fNext, fRet, fIf, fAsg, fAsgL, fAsgT, fAsgD, fPar, fWv, fWl, fW0, setWs, wiS, fLit, fVar, Pf.slotAt, varS, fBin, fNeg, negD, fCmp, fChain, fAnd, fOr, fNot, fBool, boolS, fTest, fIte, fAt, fAtD, fCut, fPart, fNoPart, fOs, fOs0, fFn, fVs, fVs0, fTup, fFresh, fDisp, fTupOf, fListOf, fIsi, fCall, fCallW, fVal, fSlotC, isSet, Pf.rs, Pf.rsS, Pf.rsV, rsAll, rsD, keyD, datS, datsS, setS_s, setS_dv, setS_ol, setS_dat, setS_none, setS_olst, setS_rlst, setS_fdic, setS_odic, gN, gT, gs0, gsC, lenIs, binD, add_ii, subD, mulD, fdivD, modD, cmpD, ordD, isD, isNn, isNi, isNb, isNt, isNl, isiD, at_l, at_t, fn_lenL, fn_lenT, fn_max2, fn_abs, fn_int, fn_intb, intV, seq_l, seq_t, lstV, fApp, fAugD, fAugI, olS, odS, odH, inS, getElem_s, hin]
        · split
          · refine ⟨[some (.dat (.tuple [.str "points", .int p, tl cs])), some (.fdic P), some (.dat (tl tk)), none, some (.dat (.int c))], ?_, rfl⟩
            simp [c__law_done_1e, evB, evS, evE, evL, evO, evOs, evEs, evT, evTs, evI, evC, evP, evDd, evPs, evWs, evG, evGs, fSeq2, aft, fNext, fRet, fIf, fAsg, fAsgL, fAsgT, fAsgD, fPar, fWv, fWl, fW0, setWs, wiS, fLit, fVar, Pf.slotAt, varS, fBin, fNeg, negD, fCmp, fChain, fAnd, fOr, fNot, fBool, boolS, fTest, fIte, fAt, fAtD, fCut, fPart, fNoPart, fOs, fOs0, fFn, fVs, fVs0, fTup, fFresh, fDisp, fTupOf, fListOf, fIsi, fCall, fCallW, fVal, fSlotC, isSet, Pf.rs, Pf.rsS, Pf.rsV, rsAll, rsD, keyD, datS, datsS, setS_s, setS_dv, setS_ol, setS_dat, setS_none, setS_olst, setS_rlst, setS_fdic, setS_odic, gN, gT, gs0, gsC, lenIs, binD, add_ii, subD, mulD, fdivD, modD, cmpD, ordD, isD, isNn, isNi, isNb, isNt, isNl, isiD, at_l, at_t, fn_lenL, fn_lenT, fn_max2, fn_abs, fn_int, fn_intb, intV, seq_l, seq_t, lstV, fApp, fAugD, fAugI, olS, odS, odH, inS, getElem_s, hP]
          · rfl
      have hc : evL (Y m) c__law_done_1 [some (.dat (.tuple [.str "points", .int p, tl cs])), some (.fdic P), some (.dat (tl tk)), none, none] = some (((cs.filter mem).map pt).map PyData.int, [some (.dat (.tuple [.str "points", .int p, tl cs])), some (.fdic P), some (.dat (tl tk)), none, none]) := by
        unfold c__law_done_1
        refine (comp_ev (ds := il cs) (en1 := [some (.dat (.tuple [.str "points", .int p, tl cs])), some (.fdic P), some (.dat (tl tk)), none, none]) (en2 := [some (.dat (.tuple [.str "points", .int p, tl cs])), some (.fdic P), some (.dat (tl tk)), none, none]) (r := ((cs.filter mem).map pt).map PyData.int) ?_ ?_ ?_).trans rfl
        · have h2 : atI [.str "points", .int p, tl cs] 2 = some (tl cs) := rfl
          have h3 : seqV (tl cs) = some (il cs) := rfl
          unfold c__law_done_1i
          rw [evI]; unfold fSeq
          generalize tl cs = S at *
          simp [evB, evS, evE, evL, evO, evOs, evEs, evT, evTs, evI, evC, evP, evDd, evPs, evWs, evG, evGs, fSeq2, aft, fNext, fRet, fIf, fAsg, fAsgL, fAsgT, fAsgD, fPar, fWv, fWl, fW0, setWs, wiS, fLit, fVar, Pf.slotAt, varS, fBin, fNeg, negD, fCmp, fChain, fAnd, fOr, fNot, fBool, boolS, fTest, fIte, fAt, fAtD, fCut, fPart, fNoPart, fOs, fOs0, fFn, fVs, fVs0, fTup, fFresh, fDisp, fTupOf, fListOf, fIsi, fCall, fCallW, fVal, fSlotC, isSet, Pf.rs, Pf.rsS, Pf.rsV, rsAll, rsD, keyD, datS, datsS, setS_s, setS_dv, setS_ol, setS_dat, setS_none, setS_olst, setS_rlst, setS_fdic, setS_odic, gN, gT, gs0, gsC, lenIs, binD, add_ii, subD, mulD, fdivD, modD, cmpD, ordD, isD, isNn, isNi, isNb, isNt, isNl, isiD, at_l, at_t, fn_lenL, fn_lenT, fn_max2, fn_abs, fn_int, fn_intb, intV, seq_l, seq_t, lstV, fApp, fAugD, fAugI, olS, odS, odH, inS, getElem_s, h2, h3]
        · unfold il; rw [List.length_map]; unfold lim; omega
        · exact hcomp
      have hs := fn_sumI ((cs.filter mem).map pt)
      generalize ((cs.filter mem).map pt).map PyData.int = bs at *
      generalize ((cs.filter mem).map pt).sum = v at *
      generalize tl tk = S at *
      generalize tl cs = S2 at *
      refine fb_ret (en' := [some (.dat (.tuple [.str "points", .int p, S2])), some (.fdic P), some (.dat S), none, none]) rfl (B_next (en1 := [some (.dat (.tuple [.str "points", .int p, S2])), some (.fdic P), some (.dat S), none, none]) ?_ (B_ret ?_)) rfl
      · simp [evB, evS, evE, evL, evO, evOs, evEs, evT, evTs, evI, evC, evP, evDd, evPs, evWs, evG, evGs, fSeq2, aft, fNext, fRet, fIf, fAsg, fAsgL, fAsgT, fAsgD, fPar, fWv, fWl, fW0, setWs, wiS, fLit, fVar, Pf.slotAt, varS, fBin, fNeg, negD, fCmp, fChain, fAnd, fOr, fNot, fBool, boolS, fTest, fIte, fAt, fAtD, fCut, fPart, fNoPart, fOs, fOs0, fFn, fVs, fVs0, fTup, fFresh, fDisp, fTupOf, fListOf, fIsi, fCall, fCallW, fVal, fSlotC, isSet, Pf.rs, Pf.rsS, Pf.rsV, rsAll, rsD, keyD, datS, datsS, setS_s, setS_dv, setS_ol, setS_dat, setS_none, setS_olst, setS_rlst, setS_fdic, setS_odic, gN, gT, gs0, gsC, lenIs, binD, add_ii, subD, mulD, fdivD, modD, cmpD, ordD, isD, isNn, isNi, isNb, isNt, isNl, isiD, at_l, at_t, fn_lenL, fn_lenT, fn_max2, fn_abs, fn_int, fn_intb, intV, seq_l, seq_t, lstV, fApp, fAugD, fAugI, olS, odS, odH, inS, getElem_s, List.replicate, at0, at1, eS_21]
      · simp [evB, evS, evE, evL, evO, evOs, evEs, evT, evTs, evI, evC, evP, evDd, evPs, evWs, evG, evGs, fSeq2, aft, fNext, fRet, fIf, fAsg, fAsgL, fAsgT, fAsgD, fPar, fWv, fWl, fW0, setWs, wiS, fLit, fVar, Pf.slotAt, varS, fBin, fNeg, negD, fCmp, fChain, fAnd, fOr, fNot, fBool, boolS, fTest, fIte, fAt, fAtD, fCut, fPart, fNoPart, fOs, fOs0, fFn, fVs, fVs0, fTup, fFresh, fDisp, fTupOf, fListOf, fIsi, fCall, fCallW, fVal, fSlotC, isSet, Pf.rs, Pf.rsS, Pf.rsV, rsAll, rsD, keyD, datS, datsS, setS_s, setS_dv, setS_ol, setS_dat, setS_none, setS_olst, setS_rlst, setS_fdic, setS_odic, gN, gT, gs0, gsC, lenIs, binD, add_ii, subD, mulD, fdivD, modD, cmpD, ordD, isD, isNn, isNi, isNb, isNt, isNl, isiD, at_l, at_t, fn_lenL, fn_lenT, fn_max2, fn_abs, fn_int, fn_intb, intV, seq_l, seq_t, lstV, fApp, fAugD, fAugI, olS, odS, odH, inS, getElem_s, at0, at1, eS_22, hc, hs]
  intro n
  induction n with
  | zero =>
    intro lvm hn hm0 d h
    obtain ⟨m, rfl⟩ : ∃ m, lvm = m + 1 := ⟨lvm - 1, by omega⟩
    rw [f__law_done]
    exact base h
  | succ n ih =>
    intro lvm hn hm0 d h
    obtain ⟨m, rfl⟩ : ∃ m, lvm = m + 1 := ⟨lvm - 1, by omega⟩
    rw [f__law_done]
    have l0 : (0 : Nat) ≤ lim := by decide
    rcases h with h | ⟨rs, rfl, hl, hx⟩ | ⟨k, rs, rfl, hl, hx⟩
    · rw [h.dn (n + 1)]
      exact base h
    · obtain ⟨en0, hen0⟩ : ∃ en0 : En, en0 = [some (.dat (.tuple [.str "all", .tuple rs])), some (.fdic P), some (.dat (tl tk)), none, none] := ⟨_, rfl⟩
      have hcomp := comp_map (vs := [3]) (bd := evG (.name 3)) (cond := evC (Y m) c__law_done_2c) (elt := evE (Y m) c__law_done_2e) (f := fun x : D => x) (g := fun x => x) (p := fun x => !(dn pt mem n x)) (en := [some (.dat (.tuple [.str "all", .tuple rs])), some (.fdic P), some (.dat (tl tk)), none, none]) rs fun x hx' => by
        have h1 := ih (lvm := m) (by omega) (by omega) (hx x hx')
        refine ⟨[some (.dat (.tuple [.str "all", .tuple rs])), some (.fdic P), some (.dat (tl tk)), some (.dat x), none], [some (.dat (.tuple [.str "all", .tuple rs])), some (.fdic P), some (.dat (tl tk)), some (.dat x), none], rfl, ?_, ?_⟩
        · generalize tl tk = S at *
          simp [c__law_done_2c, evB, evS, evE, evL, evO, evOs, evEs, evT, evTs, evI, evC, evP, evDd, evPs, evWs, evG, evGs, fSeq2, aft, fNext, fRet, fIf, fAsg, fAsgL, fAsgT, fAsgD, fPar, fWv, fWl, fW0, setWs, wiS, fLit, fVar, Pf.slotAt, varS, fBin, fNeg, negD, fCmp, fChain, fAnd, fOr, fNot, fBool, boolS, fTest, fIte, fAt, fAtD, fCut, fPart, fNoPart, fOs, fOs0, fFn, fVs, fVs0, fTup, fFresh, fDisp, fTupOf, fListOf, fIsi, fCall, fCallW, fVal, fSlotC, isSet, Pf.rs, Pf.rsS, Pf.rsV, rsAll, rsD, keyD, datS, datsS, setS_s, setS_dv, setS_ol, setS_dat, setS_none, setS_olst, setS_rlst, setS_fdic, setS_odic, gN, gT, gs0, gsC, lenIs, binD, add_ii, subD, mulD, fdivD, modD, cmpD, ordD, isD, isNn, isNi, isNb, isNt, isNl, isiD, at_l, at_t, fn_lenL, fn_lenT, fn_max2, fn_abs, fn_int, fn_intb, intV, seq_l, seq_t, lstV, fApp, fAugD, fAugI, olS, odS, odH, inS, getElem_s, np__law_done, h1]
        · split
          · exact ⟨[some (.dat (.tuple [.str "all", .tuple rs])), some (.fdic P), some (.dat (tl tk)), some (.dat x), none], by simp [c__law_done_2e, evB, evS, evE, evL, evO, evOs, evEs, evT, evTs, evI, evC, evP, evDd, evPs, evWs, evG, evGs, fSeq2, aft, fNext, fRet, fIf, fAsg, fAsgL, fAsgT, fAsgD, fPar, fWv, fWl, fW0, setWs, wiS, fLit, fVar, Pf.slotAt, varS, fBin, fNeg, negD, fCmp, fChain, fAnd, fOr, fNot, fBool, boolS, fTest, fIte, fAt, fAtD, fCut, fPart, fNoPart, fOs, fOs0, fFn, fVs, fVs0, fTup, fFresh, fDisp, fTupOf, fListOf, fIsi, fCall, fCallW, fVal, fSlotC, isSet, Pf.rs, Pf.rsS, Pf.rsV, rsAll, rsD, keyD, datS, datsS, setS_s, setS_dv, setS_ol, setS_dat, setS_none, setS_olst, setS_rlst, setS_fdic, setS_odic, gN, gT, gs0, gsC, lenIs, binD, add_ii, subD, mulD, fdivD, modD, cmpD, ordD, isD, isNn, isNi, isNb, isNt, isNl, isiD, at_l, at_t, fn_lenL, fn_lenT, fn_max2, fn_abs, fn_int, fn_intb, intV, seq_l, seq_t, lstV, fApp, fAugD, fAugI, olS, odS, odH, inS, getElem_s], rfl⟩
          · rfl
      rw [show rs.map (fun x : D => x) = rs from List.map_id _, show ∀ zs : List D, zs.map (fun x : D => x) = zs from fun zs => List.map_id _] at hcomp
      have hc : evL (Y m) c__law_done_2 [some (.dat (.tuple [.str "all", .tuple rs])), some (.fdic P), some (.dat (tl tk)), none, none] = some (rs.filter (fun x => !(dn pt mem n x)), [some (.dat (.tuple [.str "all", .tuple rs])), some (.fdic P), some (.dat (tl tk)), none, none]) := by
        unfold c__law_done_2
        refine (comp_ev (ds := rs) (en1 := [some (.dat (.tuple [.str "all", .tuple rs])), some (.fdic P), some (.dat (tl tk)), none, none]) (en2 := [some (.dat (.tuple [.str "all", .tuple rs])), some (.fdic P), some (.dat (tl tk)), none, none]) (r := rs.filter (fun x => !(dn pt mem n x))) ?_ ?_ ?_).trans rfl
        · unfold c__law_done_2i
          rw [evI]; unfold fSeq
          simp [evB, evS, evE, evL, evO, evOs, evEs, evT, evTs, evI, evC, evP, evDd, evPs, evWs, evG, evGs, fSeq2, aft, fNext, fRet, fIf, fAsg, fAsgL, fAsgT, fAsgD, fPar, fWv, fWl, fW0, setWs, wiS, fLit, fVar, Pf.slotAt, varS, fBin, fNeg, negD, fCmp, fChain, fAnd, fOr, fNot, fBool, boolS, fTest, fIte, fAt, fAtD, fCut, fPart, fNoPart, fOs, fOs0, fFn, fVs, fVs0, fTup, fFresh, fDisp, fTupOf, fListOf, fIsi, fCall, fCallW, fVal, fSlotC, isSet, Pf.rs, Pf.rsS, Pf.rsV, rsAll, rsD, keyD, datS, datsS, setS_s, setS_dv, setS_ol, setS_dat, setS_none, setS_olst, setS_rlst, setS_fdic, setS_odic, gN, gT, gs0, gsC, lenIs, binD, add_ii, subD, mulD, fdivD, modD, cmpD, ordD, isD, isNn, isNi, isNb, isNt, isNl, isiD, at_l, at_t, fn_lenL, fn_lenT, fn_max2, fn_abs, fn_int, fn_intb, intV, seq_l, seq_t, lstV, fApp, fAugD, fAugI, olS, odS, odH, inS, getElem_s, at1]
        · unfold lim; omega
        · exact hcomp
      have hall := bad_nilD (n := 2 * n + 2) (by omega) rs (dn pt mem n) fun x hx' => (hx x hx').rd.nd.shD
      have e : dn pt mem (n + 1) (.tuple [.str "all", .tuple rs]) = rs.all (dn pt mem n) := rfl
      rw [e]
      generalize rs.filter (fun x => !(dn pt mem n x)) = bs at *
      generalize rs.all (dn pt mem n) = v at *
      generalize tl tk = S at *
      refine fb_ret (en' := [some (.dat (.tuple [.str "all", .tuple rs])), some (.fdic P), some (.dat S), none, none]) rfl (B_next (en1 := [some (.dat (.tuple [.str "all", .tuple rs])), some (.fdic P), some (.dat S), none, none]) ?_ (B_next (en1 := [some (.dat (.tuple [.str "all", .tuple rs])), some (.fdic P), some (.dat S), none, none]) ?_ (B_ret ?_))) rfl
      · simp [evB, evS, evE, evL, evO, evOs, evEs, evT, evTs, evI, evC, evP, evDd, evPs, evWs, evG, evGs, fSeq2, aft, fNext, fRet, fIf, fAsg, fAsgL, fAsgT, fAsgD, fPar, fWv, fWl, fW0, setWs, wiS, fLit, fVar, Pf.slotAt, varS, fBin, fNeg, negD, fCmp, fChain, fAnd, fOr, fNot, fBool, boolS, fTest, fIte, fAt, fAtD, fCut, fPart, fNoPart, fOs, fOs0, fFn, fVs, fVs0, fTup, fFresh, fDisp, fTupOf, fListOf, fIsi, fCall, fCallW, fVal, fSlotC, isSet, Pf.rs, Pf.rsS, Pf.rsV, rsAll, rsD, keyD, datS, datsS, setS_s, setS_dv, setS_ol, setS_dat, setS_none, setS_olst, setS_rlst, setS_fdic, setS_odic, gN, gT, gs0, gsC, lenIs, binD, add_ii, subD, mulD, fdivD, modD, cmpD, ordD, isD, isNn, isNi, isNb, isNt, isNl, isiD, at_l, at_t, fn_lenL, fn_lenT, fn_max2, fn_abs, fn_int, fn_intb, intV, seq_l, seq_t, lstV, fApp, fAugD, fAugI, olS, odS, odH, inS, getElem_s, List.replicate, at0, at1, eS_31]
      · simp [evB, evS, evE, evL, evO, evOs, evEs, evT, evTs, evI, evC, evP, evDd, evPs, evWs, evG, evGs, fSeq2, aft, fNext, fRet, fIf, fAsg, fAsgL, fAsgT, fAsgD, fPar, fWv, fWl, fW0, setWs, wiS, fLit, fVar, Pf.slotAt, varS, fBin, fNeg, negD, fCmp, fChain, fAnd, fOr, fNot, fBool, boolS, fTest, fIte, fAt, fAtD, fCut, fPart, fNoPart, fOs, fOs0, fFn, fVs, fVs0, fTup, fFresh, fDisp, fTupOf, fListOf, fIsi, fCall, fCallW, fVal, fSlotC, isSet, Pf.rs, Pf.rsS, Pf.rsV, rsAll, rsD, keyD, datS, datsS, setS_s, setS_dv, setS_ol, setS_dat, setS_none, setS_olst, setS_rlst, setS_fdic, setS_odic, gN, gT, gs0, gsC, lenIs, binD, add_ii, subD, mulD, fdivD, modD, cmpD, ordD, isD, isNn, isNi, isNb, isNt, isNl, isiD, at_l, at_t, fn_lenL, fn_lenT, fn_max2, fn_abs, fn_int, fn_intb, intV, seq_l, seq_t, lstV, fApp, fAugD, fAugI, olS, odS, odH, inS, getElem_s, at0, at1, eS_32]
      · simp [evB, evS, evE, evL, evO, evOs, evEs, evT, evTs, evI, evC, evP, evDd, evPs, evWs, evG, evGs, fSeq2, aft, fNext, fRet, fIf, fAsg, fAsgL, fAsgT, fAsgD, fPar, fWv, fWl, fW0, setWs, wiS, fLit, fVar, Pf.slotAt, varS, fBin, fNeg, negD, fCmp, fChain, fAnd, fOr, fNot, fBool, boolS, fTest, fIte, fAt, fAtD, fCut, fPart, fNoPart, fOs, fOs0, fFn, fVs, fVs0, fTup, fFresh, fDisp, fTupOf, fListOf, fIsi, fCall, fCallW, fVal, fSlotC, isSet, Pf.rs, Pf.rsS, Pf.rsV, rsAll, rsD, keyD, datS, datsS, setS_s, setS_dv, setS_ol, setS_dat, setS_none, setS_olst, setS_rlst, setS_fdic, setS_odic, gN, gT, gs0, gsC, lenIs, binD, add_ii, subD, mulD, fdivD, modD, cmpD, ordD, isD, isNn, isNi, isNb, isNt, isNl, isiD, at_l, at_t, fn_lenL, fn_lenT, fn_max2, fn_abs, fn_int, fn_intb, intV, seq_l, seq_t, lstV, fApp, fAugD, fAugI, olS, odS, odH, inS, getElem_s, at0, at1, eS_33, hc, hall, l0]
    · have hcomp := comp_map (vs := [3]) (bd := evG (.name 3)) (cond := evC (Y m) c__law_done_3c) (elt := evE (Y m) c__law_done_3e) (f := fun x : D => x) (g := fun x => x) (p := fun x => dn pt mem n x) (en := [some (.dat (.tuple [.str "of", .int k, .tuple rs])), some (.fdic P), some (.dat (tl tk)), none, none]) rs fun x hx' => by
        have h1 := ih (lvm := m) (by omega) (by omega) (hx x hx')
        refine ⟨[some (.dat (.tuple [.str "of", .int k, .tuple rs])), some (.fdic P), some (.dat (tl tk)), some (.dat x), none], [some (.dat (.tuple [.str "of", .int k, .tuple rs])), some (.fdic P), some (.dat (tl tk)), some (.dat x), none], rfl, ?_, ?_⟩
        · generalize tl tk = S at *
          simp [c__law_done_3c, evB, evS, evE, evL, evO, evOs, evEs, evT, evTs, evI, evC, evP, evDd, evPs, evWs, evG, evGs, fSeq2, aft, fNext, fRet, fIf, fAsg, fAsgL, fAsgT, fAsgD, fPar, fWv, fWl, fW0, setWs, wiS, fLit, fVar, Pf.slotAt, varS, fBin, fNeg, negD, fCmp, fChain, fAnd, fOr, fNot, fBool, boolS, fTest, fIte, fAt, fAtD, fCut, fPart, fNoPart, fOs, fOs0, fFn, fVs, fVs0, fTup, fFresh, fDisp, fTupOf, fListOf, fIsi, fCall, fCallW, fVal, fSlotC, isSet, Pf.rs, Pf.rsS, Pf.rsV, rsAll, rsD, keyD, datS, datsS, setS_s, setS_dv, setS_ol, setS_dat, setS_none, setS_olst, setS_rlst, setS_fdic, setS_odic, gN, gT, gs0, gsC, lenIs, binD, add_ii, subD, mulD, fdivD, modD, cmpD, ordD, isD, isNn, isNi, isNb, isNt, isNl, isiD, at_l, at_t, fn_lenL, fn_lenT, fn_max2, fn_abs, fn_int, fn_intb, intV, seq_l, seq_t, lstV, fApp, fAugD, fAugI, olS, odS, odH, inS, getElem_s, np__law_done, h1]
        · split
          · exact ⟨[some (.dat (.tuple [.str "of", .int k, .tuple rs])), some (.fdic P), some (.dat (tl tk)), some (.dat x), none], by simp [c__law_done_3e, evB, evS, evE, evL, evO, evOs, evEs, evT, evTs, evI, evC, evP, evDd, evPs, evWs, evG, evGs, fSeq2, aft, fNext, fRet, fIf, fAsg, fAsgL, fAsgT, fAsgD, fPar, fWv, fWl, fW0, setWs, wiS, fLit, fVar, Pf.slotAt, varS, fBin, fNeg, negD, fCmp, fChain, fAnd, fOr, fNot, fBool, boolS, fTest, fIte, fAt, fAtD, fCut, fPart, fNoPart, fOs, fOs0, fFn, fVs, fVs0, fTup, fFresh, fDisp, fTupOf, fListOf, fIsi, fCall, fCallW, fVal, fSlotC, isSet, Pf.rs, Pf.rsS, Pf.rsV, rsAll, rsD, keyD, datS, datsS, setS_s, setS_dv, setS_ol, setS_dat, setS_none, setS_olst, setS_rlst, setS_fdic, setS_odic, gN, gT, gs0, gsC, lenIs, binD, add_ii, subD, mulD, fdivD, modD, cmpD, ordD, isD, isNn, isNi, isNb, isNt, isNl, isiD, at_l, at_t, fn_lenL, fn_lenT, fn_max2, fn_abs, fn_int, fn_intb, intV, seq_l, seq_t, lstV, fApp, fAugD, fAugI, olS, odS, odH, inS, getElem_s], rfl⟩
          · rfl
      rw [show rs.map (fun x : D => x) = rs from List.map_id _, show ∀ zs : List D, zs.map (fun x : D => x) = zs from fun zs => List.map_id _] at hcomp
      have hc : evL (Y m) c__law_done_3 [some (.dat (.tuple [.str "of", .int k, .tuple rs])), some (.fdic P), some (.dat (tl tk)), none, none] = some (rs.filter (fun x => dn pt mem n x), [some (.dat (.tuple [.str "of", .int k, .tuple rs])), some (.fdic P), some (.dat (tl tk)), none, none]) := by
        unfold c__law_done_3
        refine (comp_ev (ds := rs) (en1 := [some (.dat (.tuple [.str "of", .int k, .tuple rs])), some (.fdic P), some (.dat (tl tk)), none, none]) (en2 := [some (.dat (.tuple [.str "of", .int k, .tuple rs])), some (.fdic P), some (.dat (tl tk)), none, none]) (r := rs.filter (fun x => dn pt mem n x)) ?_ ?_ ?_).trans rfl
        · have h2 : atI [PyData.str "of", .int k, .tuple rs] 2 = some (.tuple rs) := rfl
          unfold c__law_done_3i
          rw [evI]; unfold fSeq
          simp [evB, evS, evE, evL, evO, evOs, evEs, evT, evTs, evI, evC, evP, evDd, evPs, evWs, evG, evGs, fSeq2, aft, fNext, fRet, fIf, fAsg, fAsgL, fAsgT, fAsgD, fPar, fWv, fWl, fW0, setWs, wiS, fLit, fVar, Pf.slotAt, varS, fBin, fNeg, negD, fCmp, fChain, fAnd, fOr, fNot, fBool, boolS, fTest, fIte, fAt, fAtD, fCut, fPart, fNoPart, fOs, fOs0, fFn, fVs, fVs0, fTup, fFresh, fDisp, fTupOf, fListOf, fIsi, fCall, fCallW, fVal, fSlotC, isSet, Pf.rs, Pf.rsS, Pf.rsV, rsAll, rsD, keyD, datS, datsS, setS_s, setS_dv, setS_ol, setS_dat, setS_none, setS_olst, setS_rlst, setS_fdic, setS_odic, gN, gT, gs0, gsC, lenIs, binD, add_ii, subD, mulD, fdivD, modD, cmpD, ordD, isD, isNn, isNi, isNb, isNt, isNl, isiD, at_l, at_t, fn_lenL, fn_lenT, fn_max2, fn_abs, fn_int, fn_intb, intV, seq_l, seq_t, lstV, fApp, fAugD, fAugI, olS, odS, odH, inS, getElem_s, h2]
        · unfold lim; omega
        · exact hcomp
      have e : dn pt mem (n + 1) (.tuple [.str "of", .int k, .tuple rs]) = decide (k ≤ ((rs.filter (fun x => dn pt mem n x)).length : Int)) := by
        show (if isS "points" (.str "of") = true then _ else _) = _
        rw [if_neg (by decide)]
      rw [e]
      generalize rs.filter (fun x => dn pt mem n x) = bs at *
      generalize tl tk = S at *
      refine fb_ret (en' := [some (.dat (.tuple [.str "of", .int k, .tuple rs])), some (.fdic P), some (.dat S), none, none]) rfl (B_next (en1 := [some (.dat (.tuple [.str "of", .int k, .tuple rs])), some (.fdic P), some (.dat S), none, none]) ?_ (B_next (en1 := [some (.dat (.tuple [.str "of", .int k, .tuple rs])), some (.fdic P), some (.dat S), none, none]) ?_ (B_next (en1 := [some (.dat (.tuple [.str "of", .int k, .tuple rs])), some (.fdic P), some (.dat S), none, none]) ?_ (B_ret ?_)))) rfl
      · simp [evB, evS, evE, evL, evO, evOs, evEs, evT, evTs, evI, evC, evP, evDd, evPs, evWs, evG, evGs, fSeq2, aft, fNext, fRet, fIf, fAsg, fAsgL, fAsgT, fAsgD, fPar, fWv, fWl, fW0, setWs, wiS, fLit, fVar, Pf.slotAt, varS, fBin, fNeg, negD, fCmp, fChain, fAnd, fOr, fNot, fBool, boolS, fTest, fIte, fAt, fAtD, fCut, fPart, fNoPart, fOs, fOs0, fFn, fVs, fVs0, fTup, fFresh, fDisp, fTupOf, fListOf, fIsi, fCall, fCallW, fVal, fSlotC, isSet, Pf.rs, Pf.rsS, Pf.rsV, rsAll, rsD, keyD, datS, datsS, setS_s, setS_dv, setS_ol, setS_dat, setS_none, setS_olst, setS_rlst, setS_fdic, setS_odic, gN, gT, gs0, gsC, lenIs, binD, add_ii, subD, mulD, fdivD, modD, cmpD, ordD, isD, isNn, isNi, isNb, isNt, isNl, isiD, at_l, at_t, fn_lenL, fn_lenT, fn_max2, fn_abs, fn_int, fn_intb, intV, seq_l, seq_t, lstV, fApp, fAugD, fAugI, olS, odS, odH, inS, getElem_s, List.replicate, at0, at1, eS_41]
      · simp [evB, evS, evE, evL, evO, evOs, evEs, evT, evTs, evI, evC, evP, evDd, evPs, evWs, evG, evGs, fSeq2, aft, fNext, fRet, fIf, fAsg, fAsgL, fAsgT, fAsgD, fPar, fWv, fWl, fW0, setWs, wiS, fLit, fVar, Pf.slotAt, varS, fBin, fNeg, negD, fCmp, fChain, fAnd, fOr, fNot, fBool, boolS, fTest, fIte, fAt, fAtD, fCut, fPart, fNoPart, fOs, fOs0, fFn, fVs, fVs0, fTup, fFresh, fDisp, fTupOf, fListOf, fIsi, fCall, fCallW, fVal, fSlotC, isSet, Pf.rs, Pf.rsS, Pf.rsV, rsAll, rsD, keyD, datS, datsS, setS_s, setS_dv, setS_ol, setS_dat, setS_none, setS_olst, setS_rlst, setS_fdic, setS_odic, gN, gT, gs0, gsC, lenIs, binD, add_ii, subD, mulD, fdivD, modD, cmpD, ordD, isD, isNn, isNi, isNb, isNt, isNl, isiD, at_l, at_t, fn_lenL, fn_lenT, fn_max2, fn_abs, fn_int, fn_intb, intV, seq_l, seq_t, lstV, fApp, fAugD, fAugI, olS, odS, odH, inS, getElem_s, at0, at1, eS_42]
      · simp [evB, evS, evE, evL, evO, evOs, evEs, evT, evTs, evI, evC, evP, evDd, evPs, evWs, evG, evGs, fSeq2, aft, fNext, fRet, fIf, fAsg, fAsgL, fAsgT, fAsgD, fPar, fWv, fWl, fW0, setWs, wiS, fLit, fVar, Pf.slotAt, varS, fBin, fNeg, negD, fCmp, fChain, fAnd, fOr, fNot, fBool, boolS, fTest, fIte, fAt, fAtD, fCut, fPart, fNoPart, fOs, fOs0, fFn, fVs, fVs0, fTup, fFresh, fDisp, fTupOf, fListOf, fIsi, fCall, fCallW, fVal, fSlotC, isSet, Pf.rs, Pf.rsS, Pf.rsV, rsAll, rsD, keyD, datS, datsS, setS_s, setS_dv, setS_ol, setS_dat, setS_none, setS_olst, setS_rlst, setS_fdic, setS_odic, gN, gT, gs0, gsC, lenIs, binD, add_ii, subD, mulD, fdivD, modD, cmpD, ordD, isD, isNn, isNi, isNb, isNt, isNl, isiD, at_l, at_t, fn_lenL, fn_lenT, fn_max2, fn_abs, fn_int, fn_intb, intV, seq_l, seq_t, lstV, fApp, fAugD, fAugI, olS, odS, odH, inS, getElem_s, at0, at1, eS_43]
      · simp [evB, evS, evE, evL, evO, evOs, evEs, evT, evTs, evI, evC, evP, evDd, evPs, evWs, evG, evGs, fSeq2, aft, fNext, fRet, fIf, fAsg, fAsgL, fAsgT, fAsgD, fPar, fWv, fWl, fW0, setWs, wiS, fLit, fVar, Pf.slotAt, varS, fBin, fNeg, negD, fCmp, fChain, fAnd, fOr, fNot, fBool, boolS, fTest, fIte, fAt, fAtD, fCut, fPart, fNoPart, fOs, fOs0, fFn, fVs, fVs0, fTup, fFresh, fDisp, fTupOf, fListOf, fIsi, fCall, fCallW, fVal, fSlotC, isSet, Pf.rs, Pf.rsS, Pf.rsV, rsAll, rsD, keyD, datS, datsS, setS_s, setS_dv, setS_ol, setS_dat, setS_none, setS_olst, setS_rlst, setS_fdic, setS_odic, gN, gT, gs0, gsC, lenIs, binD, add_ii, subD, mulD, fdivD, modD, cmpD, ordD, isD, isNn, isNi, isNb, isNt, isNl, isiD, at_l, at_t, fn_lenL, fn_lenT, fn_max2, fn_abs, fn_int, fn_intb, intV, seq_l, seq_t, lstV, fApp, fAugD, fAugI, olS, odS, odH, inS, getElem_s, at0, at1, hc]
/-- what is found, or nothing -/
def fo : Option (List Int) → D
  | none => .none
  | some s => tl s
def lft (tk cs : List Int) : List Int := cs.filter fun c => !decide (c ∈ tk)
theorem notin_comp {m : Nat} {tk cs : List Int} {vs : List Nat} {bd : D → En → Option En} {cond : M Bool} {elt : M SV} {en : En} (hc : ∀ c ∈ cs, ∃ en1 en2, bd (.int c) en = some en1 ∧ cond en1 = some (!decide (c ∈ tk), en2) ∧ if (!decide (c ∈ tk)) = true then ∃ en3, elt en2 = some (.dat (.int c), en3) ∧ wipeE en3 vs = en else wipeE en2 vs = en) :
    cLoop vs bd cond elt (il cs) en = some (il (lft tk cs), en) :=
  comp_map (vs := vs) (bd := bd) (cond := cond) (elt := elt) (f := PyData.int) (g := PyData.int) (p := fun c => !decide (c ∈ tk)) (en := en) cs hc
theorem fewest_left_lv (hP : ∀ c, 0 ≤ c → c < 5 → lookD P (.inl c) = some (.int (pt c))) {n lvm : Nat} (hm0 : n + 12 ≤ lvm) {d : D} (h : RR n d) {cs : List Int} (ht : tk.length ≤ 5) (hl : cs.length ≤ 5) :
    ((Y lvm).f 9).2 [.dat d, .fdic P, .dat (tl tk), .dat (tl cs)] = some (fo ((alls (lft tk cs)).find? fun s => dn pt (fun c => decide (c ∈ tk ++ s)) n d), [.dat d, .fdic P, .dat (tl tk), .dat (tl cs)]) := by
  obtain ⟨m, rfl⟩ : ∃ m, lvm = m + 1 := ⟨lvm - 1, by omega⟩
  rw [f_fewest_left]
  have hll : (lft tk cs).length ≤ 5 := Nat.le_trans (List.length_filter_le _ _) hl
  have hcomp := notin_comp (m := m) (tk := tk) (cs := cs) (vs := [6]) (bd := evG (.name 6)) (cond := evC (Y m) c_fewest_left_1c) (elt := evE (Y m) c_fewest_left_1e) (en := [some (.dat d), some (.fdic P), some (.dat (tl tk)), some (.dat (tl cs)), none, none, none]) fun c hc => by
    have hin := inD_tl c tk
    refine ⟨[some (.dat d), some (.fdic P), some (.dat (tl tk)), some (.dat (tl cs)), none, none, some (.dat (.int c))], [some (.dat d), some (.fdic P), some (.dat (tl tk)), some (.dat (tl cs)), none, none, some (.dat (.int c))], rfl, ?_, ?_⟩
    · generalize decide (c ∈ tk) = v at *
      generalize tl tk = S at *
      simp [c_fewest_left_1c, evB, evS, evE, evL, evO, evOs, evEs, evT, evTs, evI, evC, evP, evDd, evPs, evWs, evG, evGs, fSeq2, aft, fNext, fRet, fIf, fAsg, fAsgL, fAsgT, fAsgD, fPar, fWv, fWl, fW0, setWs, wiS, fLit, fVar, Pf.slotAt, varS, fBin, fNeg, negD, fCmp, fChain, fAnd, fOr, fNot, fBool, boolS, fTest, fIte, fAt, fAtD, fCut, fPart, fNoPart, fOs, fOs0, fFn, fVs, fVs0, fTup, fFresh, fDisp, fTupOf, fListOf, fIsi, fCall, fCallW, fVal, fSlotC, isSet, Pf.rs, Pf.rsS, Pf.rsV, rsAll, rsD, keyD, datS, datsS, setS_s, setS_dv, setS_ol, setS_dat, setS_none, setS_olst, setS_rlst, setS_fdic, setS_odic, gN, gT, gs0, gsC, lenIs, binD, add_ii, subD, mulD, fdivD, modD, cmpD, ordD, isD, isNn, isNi, isNb, isNt, isNl, isiD, at_l, at_t, fn_lenL, fn_lenT, fn_max2, fn_abs, fn_int, fn_intb, intV, seq_l, seq_t, lstV, fApp, fAugD, fAugI, olS, odS, odH, inS, getElem_s, hin]
    · split
      · exact ⟨[some (.dat d), some (.fdic P), some (.dat (tl tk)), some (.dat (tl cs)), none, none, some (.dat (.int c))], by simp [c_fewest_left_1e, evB, evS, evE, evL, evO, evOs, evEs, evT, evTs, evI, evC, evP, evDd, evPs, evWs, evG, evGs, fSeq2, aft, fNext, fRet, fIf, fAsg, fAsgL, fAsgT, fAsgD, fPar, fWv, fWl, fW0, setWs, wiS, fLit, fVar, Pf.slotAt, varS, fBin, fNeg, negD, fCmp, fChain, fAnd, fOr, fNot, fBool, boolS, fTest, fIte, fAt, fAtD, fCut, fPart, fNoPart, fOs, fOs0, fFn, fVs, fVs0, fTup, fFresh, fDisp, fTupOf, fListOf, fIsi, fCall, fCallW, fVal, fSlotC, isSet, Pf.rs, Pf.rsS, Pf.rsV, rsAll, rsD, keyD, datS, datsS, setS_s, setS_dv, setS_ol, setS_dat, setS_none, setS_olst, setS_rlst, setS_fdic, setS_odic, gN, gT, gs0, gsC, lenIs, binD, add_ii, subD, mulD, fdivD, modD, cmpD, ordD, isD, isNn, isNi, isNb, isNt, isNl, isiD, at_l, at_t, fn_lenL, fn_lenT, fn_max2, fn_abs, fn_int, fn_intb, intV, seq_l, seq_t, lstV, fApp, fAugD, fAugI, olS, odS, odH, inS, getElem_s], rfl⟩
      · rfl
  have hc : evL (Y m) c_fewest_left_1 [some (.dat d), some (.fdic P), some (.dat (tl tk)), some (.dat (tl cs)), none, none, none] = some (il (lft tk cs), [some (.dat d), some (.fdic P), some (.dat (tl tk)), some (.dat (tl cs)), none, none, none]) := by
    unfold c_fewest_left_1
    refine (comp_ev (ds := il cs) (en1 := [some (.dat d), some (.fdic P), some (.dat (tl tk)), some (.dat (tl cs)), none, none, none]) (en2 := [some (.dat d), some (.fdic P), some (.dat (tl tk)), some (.dat (tl cs)), none, none, none]) (r := il (lft tk cs)) ?_ ?_ ?_).trans rfl
    · have h3 : seqV (tl cs) = some (il cs) := rfl
      unfold c_fewest_left_1i
      rw [evI]; unfold fSeq
      generalize tl cs = S at *
      simp [evB, evS, evE, evL, evO, evOs, evEs, evT, evTs, evI, evC, evP, evDd, evPs, evWs, evG, evGs, fSeq2, aft, fNext, fRet, fIf, fAsg, fAsgL, fAsgT, fAsgD, fPar, fWv, fWl, fW0, setWs, wiS, fLit, fVar, Pf.slotAt, varS, fBin, fNeg, negD, fCmp, fChain, fAnd, fOr, fNot, fBool, boolS, fTest, fIte, fAt, fAtD, fCut, fPart, fNoPart, fOs, fOs0, fFn, fVs, fVs0, fTup, fFresh, fDisp, fTupOf, fListOf, fIsi, fCall, fCallW, fVal, fSlotC, isSet, Pf.rs, Pf.rsS, Pf.rsV, rsAll, rsD, keyD, datS, datsS, setS_s, setS_dv, setS_ol, setS_dat, setS_none, setS_olst, setS_rlst, setS_fdic, setS_odic, gN, gT, gs0, gsC, lenIs, binD, add_ii, subD, mulD, fdivD, modD, cmpD, ordD, isD, isNn, isNi, isNb, isNt, isNl, isiD, at_l, at_t, fn_lenL, fn_lenT, fn_max2, fn_abs, fn_int, fn_intb, intV, seq_l, seq_t, lstV, fApp, fAugD, fAugI, olS, odS, odH, inS, getElem_s, h3]
    · unfold il; rw [List.length_map]; unfold lim; omega
    · exact hcomp
  let f : List Int → Bool := fun s => dn pt (fun c => decide (c ∈ tk ++ s)) n d
  let E0 : Option D → En := fun o => [some (.dat d), some (.fdic P), some (.dat (tl tk)), some (.dat (tl cs)), some (.dat (tl (lft tk cs))), o.map SV.dat, none]
  have hE : ∀ o, E0 o = [some (.dat d), some (.fdic P), some (.dat (tl tk)), some (.dat (tl cs)), some (.dat (tl (lft tk cs))), o.map SV.dat, none] := fun _ => rfl
  obtain ⟨fl, en', h1, h2⟩ := loop_ret (bd := evG (.name 5)) (body := evB (Y m) b_fewest_left_1) (P := fun i en => ((alls (lft tk cs)).take i).find? f = none ∧ ∃ o, en = E0 o) (R := fun v en => v = fo ((alls (lft tk cs)).find? f) ∧ ∃ o, en = E0 o) ((alls (lft tk cs)).map tl) 0 (E0 none) ⟨rfl, none, rfl⟩ fun j d' en hd hP' => by
    obtain ⟨hn, o, rfl⟩ := hP'
    rw [Nat.zero_add] at hn ⊢
    rw [List.getElem?_map] at hd
    obtain ⟨s, hs, rfl⟩ := Option.map_eq_some_iff.mp hd
    obtain ⟨hj, hs⟩ := List.getElem?_eq_some_iff.mp hs
    have hmem : s ∈ alls (lft tk cs) := by rw [← hs]; exact List.getElem_mem hj
    have hsl := ((alls_mem _ _).mp hmem).length_le
    have ha := add_tl (s := tk) (t := s) (by omega)
    have h60 : (tk ++ s).length < 60 := by rw [List.length_append]; omega
    have c1 := set_of_lv (lvm := m) (by omega) h60
    have c2 := is_done_lv (tk := usort (tk ++ s)) (mem := fun c => decide (c ∈ tk ++ s)) hP (fun c => decide_eq_decide.mpr (usort_mem _ _)) (lvm := m) (by omega) h
    have hsn : (alls (lft tk cs)).take (j + 1) = (alls (lft tk cs)).take j ++ [s] := by rw [List.take_succ_eq_append_getElem hj, hs]
    have key : evB (Y m) b_fewest_left_1 (E0 (some (tl s))) = some (if f s = true then .ret (tl s) else .next, E0 (some (tl s))) := by
      have ef : f s = dn pt (fun c => decide (c ∈ tk ++ s)) n d := rfl
      rw [← ef] at c2
      generalize f s = b at *
      rw [hE]
      generalize tl (usort (tk ++ s)) = S1 at *
      generalize tl (tk ++ s) = S2 at *
      generalize tl s = S3 at *
      generalize tl tk = S4 at *
      generalize tl cs = S5 at *
      generalize tl (lft tk cs) = S6 at *
      have ab : binD .add S4 S3 = addD S4 S3 := rfl
      cases b <;> simp [b_fewest_left_1, evB, evS, fSeq2, fIf, evT, fBool, evE, fCall, evEs, fVs, fVs0, fVar, Pf.slotAt, varS, fBin, evO, fSlotC, isSet, Pf.rs, Pf.rsS, ab, ha, np_set_of, c1, np_is_done, c2, boolS, fRet, aft, datS, fNext]
    refine ⟨_, _, _, gN_dv rfl, key, ?_⟩
    have hfd : (alls (lft tk cs)).find? f = ((alls (lft tk cs)).take j ++ s :: (alls (lft tk cs)).drop (j + 1)).find? f := by
      rw [← hs, ← List.drop_eq_getElem_cons hj, List.take_append_drop]
    cases hf : f s with
    | true =>
      refine .inr ⟨_, if_pos rfl, ?_, _, rfl⟩
      rw [hfd, List.find?_append, hn]
      simp [hf, fo]
    | false =>
      refine .inl ⟨if_neg (by decide), ?_, _, rfl⟩
      rw [hsn, List.find?_append, hn]
      simp [hf]
  have s1 : evS (Y m) (.asg 4 (.tupOf (.val (.fresh c_fewest_left_1)))) [some (.dat d), some (.fdic P), some (.dat (tl tk)), some (.dat (tl cs)), none, none, none] = some (.next, E0 none) := by
    rw [hE]
    have e3 : tl (lft tk cs) = .tuple (il (lft tk cs)) := rfl
    rw [e3]
    generalize il (lft tk cs) = xs at *
    simp [evB, evS, evE, evL, evO, evOs, evEs, evT, evTs, evI, evC, evP, evDd, evPs, evWs, evG, evGs, fSeq2, aft, fNext, fRet, fIf, fAsg, fAsgL, fAsgT, fAsgD, fPar, fWv, fWl, fW0, setWs, wiS, fLit, fVar, Pf.slotAt, varS, fBin, fNeg, negD, fCmp, fChain, fAnd, fOr, fNot, fBool, boolS, fTest, fIte, fAt, fAtD, fCut, fPart, fNoPart, fOs, fOs0, fFn, fVs, fVs0, fTup, fFresh, fDisp, fTupOf, fListOf, fIsi, fCall, fCallW, fVal, fSlotC, isSet, Pf.rs, Pf.rsS, Pf.rsV, rsAll, rsD, keyD, datS, datsS, setS_s, setS_dv, setS_ol, setS_dat, setS_none, setS_olst, setS_rlst, setS_fdic, setS_odic, gN, gT, gs0, gsC, lenIs, binD, add_ii, subD, mulD, fdivD, modD, cmpD, ordD, isD, isNn, isNi, isNb, isNt, isNl, isiD, at_l, at_t, fn_lenL, fn_lenT, fn_max2, fn_abs, fn_int, fn_intb, intV, seq_l, seq_t, lstV, fApp, fAugD, fAugI, olS, odS, odH, inS, getElem_s, hc]
  have hI : evI (Y m) (.seq (.call "all_sets" 6 (.cons (.var 4) .nil))) (E0 none) = some ((alls (lft tk cs)).map tl, E0 none) := by
    have c3 := all_sets_lv (lvm := m) (by omega) hll
    rw [evI, hE]; unfold fSeq
    generalize (alls (lft tk cs)).map tl = xs at *
    generalize tl (lft tk cs) = S at *
    simp [evB, evS, evE, evL, evO, evOs, evEs, evT, evTs, evI, evC, evP, evDd, evPs, evWs, evG, evGs, fSeq2, aft, fNext, fRet, fIf, fAsg, fAsgL, fAsgT, fAsgD, fPar, fWv, fWl, fW0, setWs, wiS, fLit, fVar, Pf.slotAt, varS, fBin, fNeg, negD, fCmp, fChain, fAnd, fOr, fNot, fBool, boolS, fTest, fIte, fAt, fAtD, fCut, fPart, fNoPart, fOs, fOs0, fFn, fVs, fVs0, fTup, fFresh, fDisp, fTupOf, fListOf, fIsi, fCall, fCallW, fVal, fSlotC, isSet, Pf.rs, Pf.rsS, Pf.rsV, rsAll, rsD, keyD, datS, datsS, setS_s, setS_dv, setS_ol, setS_dat, setS_none, setS_olst, setS_rlst, setS_fdic, setS_odic, gN, gT, gs0, gsC, lenIs, binD, add_ii, subD, mulD, fdivD, modD, cmpD, ordD, isD, isNn, isNi, isNb, isNt, isNl, isiD, at_l, at_t, fn_lenL, fn_lenT, fn_max2, fn_abs, fn_int, fn_intb, intV, seq_l, seq_t, lstV, fApp, fAugD, fAugI, olS, odS, odH, inS, getElem_s, np_all_sets, c3]
  have hst : List.map some [SV.dat d, .fdic P, .dat (tl tk), .dat (tl cs)] ++ List.replicate (7 - 4) none = [some (.dat d), some (.fdic P), some (.dat (tl tk)), some (.dat (tl cs)), none, none, none] := rfl
  rcases h2 with ⟨rfl, hn, o, rfl⟩ | ⟨v, rfl, hv, o, rfl⟩
  · rw [Nat.zero_add, List.length_map, List.take_length] at hn
    have : (alls (lft tk cs)).find? (fun s => dn pt (fun c => decide (c ∈ tk ++ s)) n d) = none := hn
    rw [this]
    refine fb_ret (en' := E0 o) rfl ?_ rfl
    rw [hst]
    refine B_next s1 (B_next (for_next hI h1) (B_ret ?_))
    simp [evB, evS, evE, evL, evO, evOs, evEs, evT, evTs, evI, evC, evP, evDd, evPs, evWs, evG, evGs, fSeq2, aft, fNext, fRet, fIf, fAsg, fAsgL, fAsgT, fAsgD, fPar, fWv, fWl, fW0, setWs, wiS, fLit, fVar, Pf.slotAt, varS, fBin, fNeg, negD, fCmp, fChain, fAnd, fOr, fNot, fBool, boolS, fTest, fIte, fAt, fAtD, fCut, fPart, fNoPart, fOs, fOs0, fFn, fVs, fVs0, fTup, fFresh, fDisp, fTupOf, fListOf, fIsi, fCall, fCallW, fVal, fSlotC, isSet, Pf.rs, Pf.rsS, Pf.rsV, rsAll, rsD, keyD, datS, datsS, setS_s, setS_dv, setS_ol, setS_dat, setS_none, setS_olst, setS_rlst, setS_fdic, setS_odic, gN, gT, gs0, gsC, lenIs, binD, add_ii, subD, mulD, fdivD, modD, cmpD, ordD, isD, isNn, isNi, isNb, isNt, isNl, isiD, at_l, at_t, fn_lenL, fn_lenT, fn_max2, fn_abs, fn_int, fn_intb, intV, seq_l, seq_t, lstV, fApp, fAugD, fAugI, olS, odS, odH, inS, getElem_s, fo, hE]
  · subst hv
    refine fb_ret (en' := E0 o) rfl ?_ rfl
    rw [hst]
    exact B_next s1 (B_ret (for_any hI h1))


end K26

set_option maxHeartbeats 4000000
namespace K26
open PySem L2 Pf
/-! ### values with something turned -/
theorem cutL_mem {α : Type} {xs : List α} {lo hi : Option Int} {x : α} (h : x ∈ cutL xs lo hi) : x ∈ xs := by
  unfold cutL at h
  exact List.mem_of_mem_drop (List.mem_of_mem_take h)
theorem cutL_len {α : Type} (xs : List α) (lo hi : Option Int) : (cutL xs lo hi).length ≤ xs.length := by
  unfold cutL
  rw [List.length_take, List.length_drop]
  omega
theorem add_tt {xs ys : List D} (h : xs.length + ys.length ≤ 50) : addD (.tuple xs) (.tuple ys) = some (.tuple (xs ++ ys)) := by
  show (if _ then some (PyData.tuple _) else none) = _
  rw [if_pos (by unfold lim; omega)]
theorem At.nd {n : Nat} {d : D} (h : At d) : Nd n d := by
  cases n with
  | zero => exact h
  | succ n => exact .inl h
theorem bent_int {lvm : Nat} (hm0 : 5 ≤ lvm) (ns : List Int) {k : Int} (hk : 0 ≤ k) (a : Int) : ∃ d k', At d ∧ 0 ≤ k' ∧ ((Y lvm).f 15).2 [.odic true (W ns k), .dat (.int a)] = some (d, [.odic true (W ns k'), .dat (.int a)]) := by
  obtain ⟨m, rfl⟩ : ∃ m, lvm = m + 1 := ⟨lvm - 1, by omega⟩
  rw [f__law_bent]
  have l7 : (7 : Nat) ≤ lim := by decide
  obtain ⟨d, hd, hp⟩ := pick_lv (lvm := m) (by omega) ns hk (ds := [.int (a + 1), .int (a - 1), .int 0, .int 1, .bool true, .int (a + 7), .none]) (by simp)
  refine ⟨d, k + 1, ?_, by omega, ?_⟩
  · simp only [List.mem_cons, List.not_mem_nil, or_false] at hd
    rcases hd with rfl | rfl | rfl | rfl | rfl | rfl | rfl
    · exact .inr (.inl ⟨_, rfl⟩)
    · exact .inr (.inl ⟨_, rfl⟩)
    · exact .inr (.inl ⟨_, rfl⟩)
    · exact .inr (.inl ⟨_, rfl⟩)
    · exact .inr (.inr (.inl ⟨_, rfl⟩))
    · exact .inr (.inl ⟨_, rfl⟩)
    · exact .inl rfl
  · refine fb_ret' (en' := [some (.odic true (W ns (k + 1))), some (.dat (.int a)), none]) rfl (B_next (en1 := [some (.odic true (W ns k)), some (.dat (.int a)), none]) ?_ (B_next (en1 := [some (.odic true (W ns k)), some (.dat (.int a)), none]) ?_ (B_next (en1 := [some (.odic true (W ns k)), some (.dat (.int a)), none]) ?_ (B_ret ?_)))) rfl
    · simp [evB, evS, evE, evL, evO, evOs, evEs, evT, evTs, evI, evC, evP, evDd, evPs, evWs, evG, evGs, fSeq2, aft, fNext, fRet, fIf, fAsg, fAsgL, fAsgT, fAsgD, fPar, fWv, fWl, fW0, setWs, wiS, fLit, fVar, Pf.slotAt, varS, fBin, fNeg, negD, fCmp, fChain, fAnd, fOr, fNot, fBool, boolS, fTest, fIte, fAt, fAtD, fCut, fPart, fNoPart, fOs, fOs0, fFn, fVs, fVs0, fTup, fFresh, fDisp, fTupOf, fListOf, fIsi, fCall, fCallW, fVal, fSlotC, isSet, Pf.rs, Pf.rsS, Pf.rsV, rsAll, rsD, keyD, datS, datsS, setS_s, setS_dv, setS_ol, setS_dat, setS_none, setS_olst, setS_rlst, setS_fdic, setS_odic, gN, gT, gs0, gsC, lenIs, binD, add_ii, subD, mulD, fdivD, modD, cmpD, ordD, isD, isNn, isNi, isNb, isNt, isNl, isiD, at_l, at_t, fn_lenL, fn_lenT, fn_max2, fn_abs, fn_int, fn_intb, intV, seq_l, seq_t, lstV, fApp, fAugD, fAugI, olS, odS, odH, inS, getElem_s, List.replicate]
    · simp [evB, evS, evE, evL, evO, evOs, evEs, evT, evTs, evI, evC, evP, evDd, evPs, evWs, evG, evGs, fSeq2, aft, fNext, fRet, fIf, fAsg, fAsgL, fAsgT, fAsgD, fPar, fWv, fWl, fW0, setWs, wiS, fLit, fVar, Pf.slotAt, varS, fBin, fNeg, negD, fCmp, fChain, fAnd, fOr, fNot, fBool, boolS, fTest, fIte, fAt, fAtD, fCut, fPart, fNoPart, fOs, fOs0, fFn, fVs, fVs0, fTup, fFresh, fDisp, fTupOf, fListOf, fIsi, fCall, fCallW, fVal, fSlotC, isSet, Pf.rs, Pf.rsS, Pf.rsV, rsAll, rsD, keyD, datS, datsS, setS_s, setS_dv, setS_ol, setS_dat, setS_none, setS_olst, setS_rlst, setS_fdic, setS_odic, gN, gT, gs0, gsC, lenIs, binD, add_ii, subD, mulD, fdivD, modD, cmpD, ordD, isD, isNn, isNi, isNb, isNt, isNl, isiD, at_l, at_t, fn_lenL, fn_lenT, fn_max2, fn_abs, fn_int, fn_intb, intV, seq_l, seq_t, lstV, fApp, fAugD, fAugI, olS, odS, odH, inS, getElem_s]
    · simp [evB, evS, evE, evL, evO, evOs, evEs, evT, evTs, evI, evC, evP, evDd, evPs, evWs, evG, evGs, fSeq2, aft, fNext, fRet, fIf, fAsg, fAsgL, fAsgT, fAsgD, fPar, fWv, fWl, fW0, setWs, wiS, fLit, fVar, Pf.slotAt, varS, fBin, fNeg, negD, fCmp, fChain, fAnd, fOr, fNot, fBool, boolS, fTest, fIte, fAt, fAtD, fCut, fPart, fNoPart, fOs, fOs0, fFn, fVs, fVs0, fTup, fFresh, fDisp, fTupOf, fListOf, fIsi, fCall, fCallW, fVal, fSlotC, isSet, Pf.rs, Pf.rsS, Pf.rsV, rsAll, rsD, keyD, datS, datsS, setS_s, setS_dv, setS_ol, setS_dat, setS_none, setS_olst, setS_rlst, setS_fdic, setS_odic, gN, gT, gs0, gsC, lenIs, binD, add_ii, subD, mulD, fdivD, modD, cmpD, ordD, isD, isNn, isNi, isNb, isNt, isNl, isiD, at_l, at_t, fn_lenL, fn_lenT, fn_max2, fn_abs, fn_int, fn_intb, intV, seq_l, seq_t, lstV, fApp, fAugD, fAugI, olS, odS, odH, inS, getElem_s]
    · simp [evB, evS, evE, evL, evO, evOs, evEs, evT, evTs, evI, evC, evP, evDd, evPs, evWs, evG, evGs, fSeq2, aft, fNext, fRet, fIf, fAsg, fAsgL, fAsgT, fAsgD, fPar, fWv, fWl, fW0, setWs, wiS, fLit, fVar, Pf.slotAt, varS, fBin, fNeg, negD, fCmp, fChain, fAnd, fOr, fNot, fBool, boolS, fTest, fIte, fAt, fAtD, fCut, fPart, fNoPart, fOs, fOs0, fFn, fVs, fVs0, fTup, fFresh, fDisp, fTupOf, fListOf, fIsi, fCall, fCallW, fVal, fSlotC, isSet, Pf.rs, Pf.rsS, Pf.rsV, rsAll, rsD, keyD, datS, datsS, setS_s, setS_dv, setS_ol, setS_dat, setS_none, setS_olst, setS_rlst, setS_fdic, setS_odic, gN, gT, gs0, gsC, lenIs, binD, add_ii, subD, mulD, fdivD, modD, cmpD, ordD, isD, isNn, isNi, isNb, isNt, isNl, isiD, at_l, at_t, fn_lenL, fn_lenT, fn_max2, fn_abs, fn_int, fn_intb, intV, seq_l, seq_t, lstV, fApp, fAugD, fAugI, olS, odS, odH, inS, getElem_s, l7, np__law_pick, hp]
theorem bent_str {lvm : Nat} (hm0 : 5 ≤ lvm) (ns : List Int) {k : Int} (hk : 0 ≤ k) (s : Str) : ∃ d k', At d ∧ 0 ≤ k' ∧ ((Y lvm).f 15).2 [.odic true (W ns k), .dat (.str s)] = some (d, [.odic true (W ns k'), .dat (.str s)]) := by
  obtain ⟨m, rfl⟩ : ∃ m, lvm = m + 1 := ⟨lvm - 1, by omega⟩
  rw [f__law_bent]
  have l10 : (10 : Nat) ≤ lim := by decide
  obtain ⟨d, hd, hp⟩ := pick_lv (lvm := m) (by omega) ns hk (ds := [.str "is", .str "not", .str "", .str "suppose", .str "A", .none, .int 0, .str "add", .str "both", .str "so"]) (by simp)
  refine ⟨d, k + 1, ?_, by omega, ?_⟩
  · simp only [List.mem_cons, List.not_mem_nil, or_false] at hd
    rcases hd with rfl | rfl | rfl | rfl | rfl | rfl | rfl | rfl | rfl | rfl
    · exact .inr (.inr (.inr ⟨_, rfl, by decide +kernel⟩))
    · exact .inr (.inr (.inr ⟨_, rfl, by decide +kernel⟩))
    · exact .inr (.inr (.inr ⟨_, rfl, by decide +kernel⟩))
    · exact .inr (.inr (.inr ⟨_, rfl, by decide +kernel⟩))
    · exact .inr (.inr (.inr ⟨_, rfl, by decide +kernel⟩))
    · exact .inl rfl
    · exact .inr (.inl ⟨_, rfl⟩)
    · exact .inr (.inr (.inr ⟨_, rfl, by decide +kernel⟩))
    · exact .inr (.inr (.inr ⟨_, rfl, by decide +kernel⟩))
    · exact .inr (.inr (.inr ⟨_, rfl, by decide +kernel⟩))
  · refine fb_ret' (en' := [some (.odic true (W ns (k + 1))), some (.dat (.str s)), none]) rfl (B_next (en1 := [some (.odic true (W ns k)), some (.dat (.str s)), none]) ?_ (B_next (en1 := [some (.odic true (W ns k)), some (.dat (.str s)), none]) ?_ (B_ret ?_))) rfl
    · simp [evB, evS, evE, evL, evO, evOs, evEs, evT, evTs, evI, evC, evP, evDd, evPs, evWs, evG, evGs, fSeq2, aft, fNext, fRet, fIf, fAsg, fAsgL, fAsgT, fAsgD, fPar, fWv, fWl, fW0, setWs, wiS, fLit, fVar, Pf.slotAt, varS, fBin, fNeg, negD, fCmp, fChain, fAnd, fOr, fNot, fBool, boolS, fTest, fIte, fAt, fAtD, fCut, fPart, fNoPart, fOs, fOs0, fFn, fVs, fVs0, fTup, fFresh, fDisp, fTupOf, fListOf, fIsi, fCall, fCallW, fVal, fSlotC, isSet, Pf.rs, Pf.rsS, Pf.rsV, rsAll, rsD, keyD, datS, datsS, setS_s, setS_dv, setS_ol, setS_dat, setS_none, setS_olst, setS_rlst, setS_fdic, setS_odic, gN, gT, gs0, gsC, lenIs, binD, add_ii, subD, mulD, fdivD, modD, cmpD, ordD, isD, isNn, isNi, isNb, isNt, isNl, isiD, at_l, at_t, fn_lenL, fn_lenT, fn_max2, fn_abs, fn_int, fn_intb, intV, seq_l, seq_t, lstV, fApp, fAugD, fAugI, olS, odS, odH, inS, getElem_s, List.replicate]
    · simp [evB, evS, evE, evL, evO, evOs, evEs, evT, evTs, evI, evC, evP, evDd, evPs, evWs, evG, evGs, fSeq2, aft, fNext, fRet, fIf, fAsg, fAsgL, fAsgT, fAsgD, fPar, fWv, fWl, fW0, setWs, wiS, fLit, fVar, Pf.slotAt, varS, fBin, fNeg, negD, fCmp, fChain, fAnd, fOr, fNot, fBool, boolS, fTest, fIte, fAt, fAtD, fCut, fPart, fNoPart, fOs, fOs0, fFn, fVs, fVs0, fTup, fFresh, fDisp, fTupOf, fListOf, fIsi, fCall, fCallW, fVal, fSlotC, isSet, Pf.rs, Pf.rsS, Pf.rsV, rsAll, rsD, keyD, datS, datsS, setS_s, setS_dv, setS_ol, setS_dat, setS_none, setS_olst, setS_rlst, setS_fdic, setS_odic, gN, gT, gs0, gsC, lenIs, binD, add_ii, subD, mulD, fdivD, modD, cmpD, ordD, isD, isNn, isNi, isNb, isNt, isNl, isiD, at_l, at_t, fn_lenL, fn_lenT, fn_max2, fn_abs, fn_int, fn_intb, intV, seq_l, seq_t, lstV, fApp, fAugD, fAugI, olS, odS, odH, inS, getElem_s]
    · simp [evB, evS, evE, evL, evO, evOs, evEs, evT, evTs, evI, evC, evP, evDd, evPs, evWs, evG, evGs, fSeq2, aft, fNext, fRet, fIf, fAsg, fAsgL, fAsgT, fAsgD, fPar, fWv, fWl, fW0, setWs, wiS, fLit, fVar, Pf.slotAt, varS, fBin, fNeg, negD, fCmp, fChain, fAnd, fOr, fNot, fBool, boolS, fTest, fIte, fAt, fAtD, fCut, fPart, fNoPart, fOs, fOs0, fFn, fVs, fVs0, fTup, fFresh, fDisp, fTupOf, fListOf, fIsi, fCall, fCallW, fVal, fSlotC, isSet, Pf.rs, Pf.rsS, Pf.rsV, rsAll, rsD, keyD, datS, datsS, setS_s, setS_dv, setS_ol, setS_dat, setS_none, setS_olst, setS_rlst, setS_fdic, setS_odic, gN, gT, gs0, gsC, lenIs, binD, add_ii, subD, mulD, fdivD, modD, cmpD, ordD, isD, isNn, isNi, isNb, isNt, isNl, isiD, at_l, at_t, fn_lenL, fn_lenT, fn_max2, fn_abs, fn_int, fn_intb, intV, seq_l, seq_t, lstV, fApp, fAugD, fAugI, olS, odS, odH, inS, getElem_s, l10, np__law_pick, hp]
theorem bent_lv : ∀ {n lvm : Nat} (hn : n ≤ 40) (hm0 : n + 6 ≤ lvm) (ns : List Int) {k : Int} (hk : 0 ≤ k) {d : D} (h : Rd n d), ∃ d' k', Nd n d' ∧ 0 ≤ k' ∧ ((Y lvm).f 15).2 [.odic true (W ns k), .dat d] = some (d', [.odic true (W ns k'), .dat d]) := by
  intro n
  induction n with
  | zero =>
    intro lvm hn hm0 ns k hk d h
    rcases h with ⟨i, rfl⟩ | ⟨s, rfl, _⟩
    · obtain ⟨d', k', h1, h2, h3⟩ := bent_int (lvm := lvm) (by omega) ns hk i
      exact ⟨d', k', h1.nd, h2, h3⟩
    · obtain ⟨d', k', h1, h2, h3⟩ := bent_str (lvm := lvm) (by omega) ns hk s
      exact ⟨d', k', h1.nd, h2, h3⟩
  | succ n ih =>
    intro lvm hn hm0 ns k hk d h
    rcases h with (⟨i, rfl⟩ | ⟨s, rfl, _⟩) | ⟨zs, rfl, hzl, hx⟩
    · obtain ⟨d', k', h1, h2, h3⟩ := bent_int (lvm := lvm) (by omega) ns hk i
      exact ⟨d', k', h1.nd, h2, h3⟩
    · obtain ⟨d', k', h1, h2, h3⟩ := bent_str (lvm := lvm) (by omega) ns hk s
      exact ⟨d', k', h1.nd, h2, h3⟩
    obtain ⟨m, rfl⟩ : ∃ m, lvm = m + 1 := ⟨lvm - 1, by omega⟩
    rw [f__law_bent]
    have l0 : (0 : Nat) ≤ lim := by decide
    have l1 : (1 : Nat) ≤ lim := by decide
    have l6 : (6 : Nat) ≤ lim := by decide
    have hze : ∀ x ∈ zs, Nd n x := fun x hx' => (hx x hx').nd
    -- the second way, from any draw
    have sec : ∀ k, 0 ≤ k → ∃ d k' o2, Nd (n + 1) d ∧ 0 ≤ k' ∧ evS (Y m) (.ife (.val (.isi .tuple (.slot 1))) (.cons (.asg 2 (.callW "_law_next" 11 0 (.cons (.bin .add (.val (.fn .len (.cons (.slot 1) .nil))) (.val (.lit (.int 1)))) .nil))) (.cons (.ret (.callW "_law_pick" 12 0 (.cons (.fresh (.disp (.cons (.bin .add (.val (.cut (.slot 1) .no (.yes (.slot 2)))) (.val (.cut (.slot 1) (.yes (.val (.bin .add (.slot 2) (.val (.lit (.int 1)))))) .no))) (.cons (.bin .add (.slot 1) (.val (.cut (.slot 1) (.yes (.val (.neg (.val (.lit (.int 1)))))) .no))) (.cons (.rev (.var 1)) (.cons (.lit .none) (.cons (.tup .nil) (.cons (.fresh (.of (.slot 1))) .nil)))))))) .nil))) .nil)) .nil) [some (.odic true (W ns k)), some (.dat (.tuple zs)), none] = some (.ret d, [some (.odic true (W ns k')), some (.dat (.tuple zs)), o2]) := fun k hk => by
      obtain ⟨j, j0, j1, hn⟩ := next_lv (lvm := m) (by omega) ns hk (many := (zs.length : Int) + 1) (by omega)
      have c1 : cutD (.tuple zs) none (some j) = some (.tuple (cutL zs none (some j))) := rfl
      have c2 : cutD (.tuple zs) (some (j + 1)) none = some (.tuple (cutL zs (some (j + 1)) none)) := rfl
      have c3 : cutD (.tuple zs) (some (-1)) none = some (.tuple (cutL zs (some (-1)) none)) := rfl
      have n1 := cutL_len zs none (some j)
      have n2 := cutL_len zs (some (j + 1)) none
      have n3 := cutL_len zs (some (-1)) none
      have a1 := add_tt (xs := cutL zs none (some j)) (ys := cutL zs (some (j + 1)) none) (by omega)
      have a2 := add_tt (xs := zs) (ys := cutL zs (some (-1)) none) (by omega)
      have hrev : revD (.tuple zs) = some (.tuple zs.reverse) := rfl
      obtain ⟨d, hd, hp⟩ := pick_lv (lvm := m) (by omega) ns (k := k + 1) (by omega) (ds := [.tuple (cutL zs none (some j) ++ cutL zs (some (j + 1)) none), .tuple (zs ++ cutL zs (some (-1)) none), .tuple zs.reverse, .none, .tuple [], .list zs]) (by simp)
      have hB : Nd (n + 1) d := by
        simp only [List.mem_cons, List.not_mem_nil, or_false] at hd
        rcases hd with rfl | rfl | rfl | rfl | rfl | rfl
        · refine .inr ⟨_, .inl rfl, by rw [List.length_append]; omega, fun x hx => ?_⟩
          rcases List.mem_append.mp hx with z | z
          · exact hze x (cutL_mem z)
          · exact hze x (cutL_mem z)
        · refine .inr ⟨_, .inl rfl, by rw [List.length_append]; omega, fun x hx => ?_⟩
          rcases List.mem_append.mp hx with z | z
          · exact hze x z
          · exact hze x (cutL_mem z)
        · exact .inr ⟨_, .inl rfl, by rw [List.length_reverse]; omega, fun x hx => hze x (List.mem_reverse.mp hx)⟩
        · exact .inl (.inl rfl)
        · exact .inr ⟨_, .inl rfl, by simp, fun x hx => by cases hx⟩
        · exact .inr ⟨_, .inr rfl, by omega, hze⟩
      refine ⟨d, k + 1 + 1, some (.dat (.int j)), hB, by omega, ?_⟩
      generalize cutL zs none (some j) = u1 at *
      generalize cutL zs (some (j + 1)) none = u2 at *
      generalize cutL zs (some (-1)) none = u3 at *
      generalize zs.reverse = u4 at *
      simp [evB, evS, evE, evL, evO, evOs, evEs, evT, evTs, evI, evC, evP, evDd, evPs, evWs, evG, evGs, fSeq2, aft, fNext, fRet, fIf, fAsg, fAsgL, fAsgT, fAsgD, fPar, fWv, fWl, fW0, setWs, wiS, fLit, fVar, Pf.slotAt, varS, fBin, fNeg, negD, fCmp, fChain, fAnd, fOr, fNot, fBool, boolS, fTest, fIte, fAt, fAtD, fCut, fPart, fNoPart, fOs, fOs0, fFn, fVs, fVs0, fTup, fFresh, fDisp, fTupOf, fListOf, fIsi, fCall, fCallW, fVal, fSlotC, isSet, Pf.rs, Pf.rsS, Pf.rsV, rsAll, rsD, keyD, datS, datsS, setS_s, setS_dv, setS_ol, setS_dat, setS_none, setS_olst, setS_rlst, setS_fdic, setS_odic, gN, gT, gs0, gsC, lenIs, binD, add_ii, subD, mulD, fdivD, modD, cmpD, ordD, isD, isNn, isNi, isNb, isNt, isNl, isiD, at_l, at_t, fn_lenL, fn_lenT, fn_max2, fn_abs, fn_int, fn_intb, intV, seq_l, seq_t, lstV, fApp, fAugD, fAugI, olS, odS, odH, inS, getElem_s, np__law_next, hn, fRev, c1, c2, c3, a1, a2, hrev, l0, l6, np__law_pick, hp]
    cases hz : zs with
    | nil =>
      rw [hz] at sec
      obtain ⟨d, k', o2, hB, hk', e⟩ := sec k hk
      refine ⟨d, k', hB, hk', fb_ret' (en' := [some (.odic true (W ns k')), some (.dat (.tuple [])), o2]) rfl (B_next (en1 := [some (.odic true (W ns k)), some (.dat (.tuple [])), none]) ?_ (B_ret e)) rfl⟩
      have e0 : eqD (.tuple []) (.tuple []) = some true := rfl
      simp [evB, evS, evE, evL, evO, evOs, evEs, evT, evTs, evI, evC, evP, evDd, evPs, evWs, evG, evGs, fSeq2, aft, fNext, fRet, fIf, fAsg, fAsgL, fAsgT, fAsgD, fPar, fWv, fWl, fW0, setWs, wiS, fLit, fVar, Pf.slotAt, varS, fBin, fNeg, negD, fCmp, fChain, fAnd, fOr, fNot, fBool, boolS, fTest, fIte, fAt, fAtD, fCut, fPart, fNoPart, fOs, fOs0, fFn, fVs, fVs0, fTup, fFresh, fDisp, fTupOf, fListOf, fIsi, fCall, fCallW, fVal, fSlotC, isSet, Pf.rs, Pf.rsS, Pf.rsV, rsAll, rsD, keyD, datS, datsS, setS_s, setS_dv, setS_ol, setS_dat, setS_none, setS_olst, setS_rlst, setS_fdic, setS_odic, gN, gT, gs0, gsC, lenIs, binD, add_ii, subD, mulD, fdivD, modD, cmpD, ordD, isD, isNn, isNi, isNb, isNt, isNl, isiD, at_l, at_t, fn_lenL, fn_lenT, fn_max2, fn_abs, fn_int, fn_intb, intV, seq_l, seq_t, lstV, fApp, fAugD, fAugI, olS, odS, odH, inS, getElem_s, List.replicate, l0, e0]
    | cons x r' =>
      rw [← hz]
      have hpos : 0 < zs.length := by rw [hz]; simp
      have hne : eqD (.tuple zs) (.tuple []) = some false := by
        have hsh : shp (.tuple zs) = true := (shD_tuple (n := n) fun d hd => (hze d hd).shD).shp (by omega)
        show (if _ then _ else _) = _
        rw [if_pos ⟨hsh, rfl⟩, hz]
        rfl
      obtain ⟨g, g0, g1, hg⟩ := next_lv (lvm := m) (by omega) ns hk (many := 4) (by decide)
      by_cases hgp : 0 < g
      · -- the first way
        obtain ⟨j, j0, j1, hn'⟩ := next_lv (lvm := m) (by omega) ns (k := k + 1) (by omega) (many := (zs.length : Int)) (by omega)
        obtain ⟨i, rfl⟩ : ∃ i : Nat, j = (i : Int) := ⟨j.toNat, by omega⟩
        have hi : i < zs.length := by omega
        obtain ⟨d, k', hE, hk', hb⟩ := ih (lvm := m) (by omega) (by omega) ns (k := k + 1 + 1) (by omega) (hx zs[i] (List.getElem_mem hi))
        have ai : atI zs (i : Int) = some zs[i] := atI_nat (List.getElem?_eq_getElem hi)
        have c1 : cutD (.tuple zs) none (some (i : Int)) = some (.tuple (cutL zs none (some (i : Int)))) := rfl
        have c2 : cutD (.tuple zs) (some ((i : Int) + 1)) none = some (.tuple (cutL zs (some ((i : Int) + 1)) none)) := rfl
        have n1 := cutL_len zs none (some (i : Int))
        have n2 := cutL_len zs (some ((i : Int) + 1)) none
        have a1 := add_tt (xs := cutL zs none (some (i : Int))) (ys := [d]) (by rw [List.length_singleton]; omega)
        have a2 := add_tt (xs := cutL zs none (some (i : Int)) ++ [d]) (ys := cutL zs (some ((i : Int) + 1)) none) (by rw [List.length_append, List.length_singleton]; omega)
        have hB : Nd (n + 1) (.tuple (cutL zs none (some (i : Int)) ++ [d] ++ cutL zs (some ((i : Int) + 1)) none)) := by
          refine .inr ⟨_, .inl rfl, by rw [List.length_append, List.length_append, List.length_singleton]; omega, fun y hy => ?_⟩
          rcases List.mem_append.mp hy with z | z
          · rcases List.mem_append.mp z with z | z
            · exact hze y (cutL_mem z)
            · rw [List.mem_singleton.mp z]; exact hE
          · exact hze y (cutL_mem z)
        refine ⟨_, k', hB, hk', fb_ret' (en' := [some (.odic true (W ns k')), some (.dat (.tuple zs)), some (.dat (.int (i : Int)))]) rfl (B_ret ?_) rfl⟩
        generalize cutL zs none (some (i : Int)) = u1 at *
        generalize cutL zs (some ((i : Int) + 1)) none = u2 at *
        generalize zs[i] = y at *
        simp [evB, evS, evE, evL, evO, evOs, evEs, evT, evTs, evI, evC, evP, evDd, evPs, evWs, evG, evGs, fSeq2, aft, fNext, fRet, fIf, fAsg, fAsgL, fAsgT, fAsgD, fPar, fWv, fWl, fW0, setWs, wiS, fLit, fVar, Pf.slotAt, varS, fBin, fNeg, negD, fCmp, fChain, fAnd, fOr, fNot, fBool, boolS, fTest, fIte, fAt, fAtD, fCut, fPart, fNoPart, fOs, fOs0, fFn, fVs, fVs0, fTup, fFresh, fDisp, fTupOf, fListOf, fIsi, fCall, fCallW, fVal, fSlotC, isSet, Pf.rs, Pf.rsS, Pf.rsV, rsAll, rsD, keyD, datS, datsS, setS_s, setS_dv, setS_ol, setS_dat, setS_none, setS_olst, setS_rlst, setS_fdic, setS_odic, gN, gT, gs0, gsC, lenIs, binD, add_ii, subD, mulD, fdivD, modD, cmpD, ordD, isD, isNn, isNi, isNb, isNt, isNl, isiD, at_l, at_t, fn_lenL, fn_lenT, fn_max2, fn_abs, fn_int, fn_intb, intV, seq_l, seq_t, lstV, fApp, fAugD, fAugI, olS, odS, odH, inS, getElem_s, List.replicate, l0, l1, hne, np__law_next, hg, hgp, hn', c1, c2, ai, np__law_bent, hb, a1, a2]
      · obtain ⟨d, k', o2, hB, hk', e⟩ := sec (k + 1) (by omega)
        refine ⟨d, k', hB, hk', fb_ret' (en' := [some (.odic true (W ns k')), some (.dat (.tuple zs)), o2]) rfl (B_next (en1 := [some (.odic true (W ns (k + 1))), some (.dat (.tuple zs)), none]) ?_ (B_ret e)) rfl⟩
        simp [evB, evS, evE, evL, evO, evOs, evEs, evT, evTs, evI, evC, evP, evDd, evPs, evWs, evG, evGs, fSeq2, aft, fNext, fRet, fIf, fAsg, fAsgL, fAsgT, fAsgD, fPar, fWv, fWl, fW0, setWs, wiS, fLit, fVar, Pf.slotAt, varS, fBin, fNeg, negD, fCmp, fChain, fAnd, fOr, fNot, fBool, boolS, fTest, fIte, fAt, fAtD, fCut, fPart, fNoPart, fOs, fOs0, fFn, fVs, fVs0, fTup, fFresh, fDisp, fTupOf, fListOf, fIsi, fCall, fCallW, fVal, fSlotC, isSet, Pf.rs, Pf.rsS, Pf.rsV, rsAll, rsD, keyD, datS, datsS, setS_s, setS_dv, setS_ol, setS_dat, setS_none, setS_olst, setS_rlst, setS_fdic, setS_odic, gN, gT, gs0, gsC, lenIs, binD, add_ii, subD, mulD, fdivD, modD, cmpD, ordD, isD, isNn, isNi, isNb, isNt, isNl, isiD, at_l, at_t, fn_lenL, fn_lenT, fn_max2, fn_abs, fn_int, fn_intb, intV, seq_l, seq_t, lstV, fApp, fAugD, fAugI, olS, odS, odH, inS, getElem_s, List.replicate, l0, hne, np__law_next, hg, hgp]
/-! ### rules that are drawn -/
theorem rule_lv : ∀ {n lvm : Nat} (hn : n ≤ 3) (hm0 : n + 2 ≤ lvm) (ns : List Int) {k : Int} (hk : 0 ≤ k), ∃ d k', RR n d ∧ 0 ≤ k' ∧ ((Y lvm).f 18).2 [.odic true (W ns k), .dat (.int (n : Int))] = some (d, [.odic true (W ns k'), .dat (.int (n : Int))]) := by
  have l2 : (2 : Nat) ≤ lim := by decide
  have l3 : (3 : Nat) ≤ lim := by decide
  -- a course, or points
  have low : ∀ {m : Nat}, 1 ≤ m → ∀ (ns : List Int) (n : Int) {k : Int}, 0 ≤ k → ∀ t : Int, t = 0 ∨ t = 1 → ∃ d k' e, R0 d ∧ 0 ≤ k' ∧ ∀ r1 r2, evB (Y m) (.cons (.ife (.cmp .eq (.slot 2) (.val (.lit (.int 0)))) (.cons (.ret (.tup (.cons (.lit (.str "course")) (.cons (.callW "_law_next" 11 0 (.cons (.lit (.int 5)) .nil)) .nil)))) .nil) .nil) (.cons (.ife (.cmp .eq (.slot 2) (.val (.lit (.int 1)))) (.cons (.ret (.tup (.cons (.lit (.str "points")) (.cons (.callW "_law_next" 11 0 (.cons (.lit (.int 9)) .nil)) (.cons (.tupOf (.val (.fresh c__law_rule_1))) .nil))))) .nil) .nil) (.cons r1 r2))) [some (.odic true (W ns k)), some (.dat (.int n)), some (.dat (.int t)), none, none, none] = some (.ret d, [some (.odic true (W ns k')), some (.dat (.int n)), some (.dat (.int t)), none, none, e]) := fun {m} hm ns n {k} hk t ht => by
    rcases ht with rfl | rfl
    · obtain ⟨c, c0, c1, hc⟩ := next_lv (lvm := m) (by omega) ns hk (many := 5) (by decide)
      refine ⟨.tuple [.str "course", .int c], k + 1, none, .inl ⟨c, c0, c1, rfl⟩, by omega, fun r1 r2 => B_ret ?_⟩
      have e0 := eqD_int 0 0
      simp [evB, evS, evE, evL, evO, evOs, evEs, evT, evTs, evI, evC, evP, evDd, evPs, evWs, evG, evGs, fSeq2, aft, fNext, fRet, fIf, fAsg, fAsgL, fAsgT, fAsgD, fPar, fWv, fWl, fW0, setWs, wiS, fLit, fVar, Pf.slotAt, varS, fBin, fNeg, negD, fCmp, fChain, fAnd, fOr, fNot, fBool, boolS, fTest, fIte, fAt, fAtD, fCut, fPart, fNoPart, fOs, fOs0, fFn, fVs, fVs0, fTup, fFresh, fDisp, fTupOf, fListOf, fIsi, fCall, fCallW, fVal, fSlotC, isSet, Pf.rs, Pf.rsS, Pf.rsV, rsAll, rsD, keyD, datS, datsS, setS_s, setS_dv, setS_ol, setS_dat, setS_none, setS_olst, setS_rlst, setS_fdic, setS_odic, gN, gT, gs0, gsC, lenIs, binD, add_ii, subD, mulD, fdivD, modD, cmpD, ordD, isD, isNn, isNi, isNb, isNt, isNl, isiD, at_l, at_t, fn_lenL, fn_lenT, fn_max2, fn_abs, fn_int, fn_intb, intV, seq_l, seq_t, lstV, fApp, fAugD, fAugI, olS, odS, odH, inS, getElem_s, e0, np__law_next, hc, l2]
    · obtain ⟨p, p0, p1, hp⟩ := next_lv (lvm := m) (by omega) ns hk (many := 9) (by decide)
      obtain ⟨r, en', h1, k', cs, hk', hr, hin, rfl⟩ := comp_inv (vs := [5]) (bd := evG (.name 5)) (cond := evC (Y m) c__law_rule_1c) (elt := evE (Y m) c__law_rule_1e) (P := fun i acc en => ∃ (k : Int) (cs : List Int), 0 ≤ k ∧ acc = il cs ∧ (cs.length ≤ i ∧ ∀ c ∈ cs, 0 ≤ c ∧ c < 5) ∧ en = [some (.odic true (W ns k)), some (.dat (.int n)), some (.dat (.int 1)), none, none, none]) (rngD 0 5) 0 [] [some (.odic true (W ns (k + 1))), some (.dat (.int n)), some (.dat (.int 1)), none, none, none] ⟨k + 1, [], by omega, rfl, ⟨Nat.le_refl _, fun c hc => by cases hc⟩, rfl⟩ fun j d acc en hd hP => by
        obtain ⟨k, cs, hk, rfl, ⟨hcl, hcs⟩, rfl⟩ := hP
        obtain ⟨hj, rfl⟩ := rngD_at hd
        rw [Int.zero_add]
        obtain ⟨q, q0, q1, hq⟩ := next_lv (lvm := m) (by omega) ns hk (many := 2) (by decide)
        have e0 := eqD_int q 0
        refine ⟨[some (.odic true (W ns k)), some (.dat (.int n)), some (.dat (.int 1)), none, none, some (.dat (.int (j : Int)))], decide (q = 0), [some (.odic true (W ns (k + 1))), some (.dat (.int n)), some (.dat (.int 1)), none, none, some (.dat (.int (j : Int)))], rfl, ?_, ?_⟩
        · generalize decide (q = 0) = b at *
          simp [c__law_rule_1c, evB, evS, evE, evL, evO, evOs, evEs, evT, evTs, evI, evC, evP, evDd, evPs, evWs, evG, evGs, fSeq2, aft, fNext, fRet, fIf, fAsg, fAsgL, fAsgT, fAsgD, fPar, fWv, fWl, fW0, setWs, wiS, fLit, fVar, Pf.slotAt, varS, fBin, fNeg, negD, fCmp, fChain, fAnd, fOr, fNot, fBool, boolS, fTest, fIte, fAt, fAtD, fCut, fPart, fNoPart, fOs, fOs0, fFn, fVs, fVs0, fTup, fFresh, fDisp, fTupOf, fListOf, fIsi, fCall, fCallW, fVal, fSlotC, isSet, Pf.rs, Pf.rsS, Pf.rsV, rsAll, rsD, keyD, datS, datsS, setS_s, setS_dv, setS_ol, setS_dat, setS_none, setS_olst, setS_rlst, setS_fdic, setS_odic, gN, gT, gs0, gsC, lenIs, binD, add_ii, subD, mulD, fdivD, modD, cmpD, ordD, isD, isNn, isNi, isNb, isNt, isNl, isiD, at_l, at_t, fn_lenL, fn_lenT, fn_max2, fn_abs, fn_int, fn_intb, intV, seq_l, seq_t, lstV, fApp, fAugD, fAugI, olS, odS, odH, inS, getElem_s, np__law_next, hq, e0]
        · split
          · refine ⟨.int (j : Int), [some (.odic true (W ns (k + 1))), some (.dat (.int n)), some (.dat (.int 1)), none, none, some (.dat (.int (j : Int)))], by simp [c__law_rule_1e, evB, evS, evE, evL, evO, evOs, evEs, evT, evTs, evI, evC, evP, evDd, evPs, evWs, evG, evGs, fSeq2, aft, fNext, fRet, fIf, fAsg, fAsgL, fAsgT, fAsgD, fPar, fWv, fWl, fW0, setWs, wiS, fLit, fVar, Pf.slotAt, varS, fBin, fNeg, negD, fCmp, fChain, fAnd, fOr, fNot, fBool, boolS, fTest, fIte, fAt, fAtD, fCut, fPart, fNoPart, fOs, fOs0, fFn, fVs, fVs0, fTup, fFresh, fDisp, fTupOf, fListOf, fIsi, fCall, fCallW, fVal, fSlotC, isSet, Pf.rs, Pf.rsS, Pf.rsV, rsAll, rsD, keyD, datS, datsS, setS_s, setS_dv, setS_ol, setS_dat, setS_none, setS_olst, setS_rlst, setS_fdic, setS_odic, gN, gT, gs0, gsC, lenIs, binD, add_ii, subD, mulD, fdivD, modD, cmpD, ordD, isD, isNn, isNi, isNb, isNt, isNl, isiD, at_l, at_t, fn_lenL, fn_lenT, fn_max2, fn_abs, fn_int, fn_intb, intV, seq_l, seq_t, lstV, fApp, fAugD, fAugI, olS, odS, odH, inS, getElem_s], k + 1, cs ++ [(j : Int)], by omega, by unfold il; rw [List.map_append]; rfl, ⟨by rw [List.length_append, List.length_singleton]; omega, fun c hc => ?_⟩, rfl⟩
            rcases List.mem_append.mp hc with z | z
            · exact hcs c z
            · rw [List.mem_singleton.mp z]; omega
          · exact ⟨k + 1, cs, by omega, rfl, ⟨by omega, hcs⟩, rfl⟩
      rw [List.nil_append] at hr
      subst hr
      obtain ⟨hcl, hcs⟩ := hin
      rw [rngD_len] at hcl
      have hc : evL (Y m) c__law_rule_1 [some (.odic true (W ns (k + 1))), some (.dat (.int n)), some (.dat (.int 1)), none, none, none] = some (il cs, [some (.odic true (W ns k')), some (.dat (.int n)), some (.dat (.int 1)), none, none, none]) := by
        unfold c__law_rule_1
        refine (comp_ev (ds := rngD 0 5) (en1 := [some (.odic true (W ns (k + 1))), some (.dat (.int n)), some (.dat (.int 1)), none, none, none]) (en2 := [some (.odic true (W ns k')), some (.dat (.int n)), some (.dat (.int 1)), none, none, none]) (r := il cs) ?_ ?_ ?_).trans rfl
        · exact rng1_ev (k := 5) (os := [.val (.dat (.int 5))]) (m := 5) rfl rfl rfl (by decide)
        · rw [rngD_len]; decide
        · exact h1
      refine ⟨.tuple [.str "points", .int p, tl cs], k', none, .inr ⟨p, cs, by omega, hcs, rfl⟩, hk', fun r1 r2 => B_next (en1 := [some (.odic true (W ns k)), some (.dat (.int n)), some (.dat (.int 1)), none, none, none]) ?_ (B_ret ?_)⟩
      · have e0 := eqD_int 1 0
        simp [evB, evS, evE, evL, evO, evOs, evEs, evT, evTs, evI, evC, evP, evDd, evPs, evWs, evG, evGs, fSeq2, aft, fNext, fRet, fIf, fAsg, fAsgL, fAsgT, fAsgD, fPar, fWv, fWl, fW0, setWs, wiS, fLit, fVar, Pf.slotAt, varS, fBin, fNeg, negD, fCmp, fChain, fAnd, fOr, fNot, fBool, boolS, fTest, fIte, fAt, fAtD, fCut, fPart, fNoPart, fOs, fOs0, fFn, fVs, fVs0, fTup, fFresh, fDisp, fTupOf, fListOf, fIsi, fCall, fCallW, fVal, fSlotC, isSet, Pf.rs, Pf.rsS, Pf.rsV, rsAll, rsD, keyD, datS, datsS, setS_s, setS_dv, setS_ol, setS_dat, setS_none, setS_olst, setS_rlst, setS_fdic, setS_odic, gN, gT, gs0, gsC, lenIs, binD, add_ii, subD, mulD, fdivD, modD, cmpD, ordD, isD, isNn, isNi, isNb, isNt, isNl, isiD, at_l, at_t, fn_lenL, fn_lenT, fn_max2, fn_abs, fn_int, fn_intb, intV, seq_l, seq_t, lstV, fApp, fAugD, fAugI, olS, odS, odH, inS, getElem_s, e0]
      · have e0 := eqD_int 1 1
        have e3 : tl cs = .tuple (il cs) := rfl
        rw [e3]
        generalize il cs = xs at *
        simp [evB, evS, evE, evL, evO, evOs, evEs, evT, evTs, evI, evC, evP, evDd, evPs, evWs, evG, evGs, fSeq2, aft, fNext, fRet, fIf, fAsg, fAsgL, fAsgT, fAsgD, fPar, fWv, fWl, fW0, setWs, wiS, fLit, fVar, Pf.slotAt, varS, fBin, fNeg, negD, fCmp, fChain, fAnd, fOr, fNot, fBool, boolS, fTest, fIte, fAt, fAtD, fCut, fPart, fNoPart, fOs, fOs0, fFn, fVs, fVs0, fTup, fFresh, fDisp, fTupOf, fListOf, fIsi, fCall, fCallW, fVal, fSlotC, isSet, Pf.rs, Pf.rsS, Pf.rsV, rsAll, rsD, keyD, datS, datsS, setS_s, setS_dv, setS_ol, setS_dat, setS_none, setS_olst, setS_rlst, setS_fdic, setS_odic, gN, gT, gs0, gsC, lenIs, binD, add_ii, subD, mulD, fdivD, modD, cmpD, ordD, isD, isNn, isNi, isNb, isNt, isNl, isiD, at_l, at_t, fn_lenL, fn_lenT, fn_max2, fn_abs, fn_int, fn_intb, intV, seq_l, seq_t, lstV, fApp, fAugD, fAugI, olS, odS, odH, inS, getElem_s, e0, np__law_next, hp, hc, l3]
  intro n
  induction n with
  | zero =>
    intro lvm hn hm0 ns k hk
    obtain ⟨m, rfl⟩ : ∃ m, lvm = m + 1 := ⟨lvm - 1, by omega⟩
    rw [f__law_rule]
    obtain ⟨t, t0, t1, ht⟩ := next_lv (lvm := m) (by omega) ns hk (many := 2) (by decide)
    obtain ⟨d, k', e, hd, hk', h1⟩ := low (m := m) (by omega) ns ((0 : Nat) : Int) (k := k + 1) (by omega) t (by omega)
    refine ⟨d, k', hd, hk', fb_ret' (en' := [some (.odic true (W ns k')), some (.dat (.int ((0 : Nat) : Int))), some (.dat (.int t)), none, none, e]) rfl (B_next (en1 := [some (.odic true (W ns (k + 1))), some (.dat (.int ((0 : Nat) : Int))), some (.dat (.int t)), none, none, none]) ?_ (h1 _ _)) rfl⟩
    simp [evB, evS, evE, evL, evO, evOs, evEs, evT, evTs, evI, evC, evP, evDd, evPs, evWs, evG, evGs, fSeq2, aft, fNext, fRet, fIf, fAsg, fAsgL, fAsgT, fAsgD, fPar, fWv, fWl, fW0, setWs, wiS, fLit, fVar, Pf.slotAt, varS, fBin, fNeg, negD, fCmp, fChain, fAnd, fOr, fNot, fBool, boolS, fTest, fIte, fAt, fAtD, fCut, fPart, fNoPart, fOs, fOs0, fFn, fVs, fVs0, fTup, fFresh, fDisp, fTupOf, fListOf, fIsi, fCall, fCallW, fVal, fSlotC, isSet, Pf.rs, Pf.rsS, Pf.rsV, rsAll, rsD, keyD, datS, datsS, setS_s, setS_dv, setS_ol, setS_dat, setS_none, setS_olst, setS_rlst, setS_fdic, setS_odic, gN, gT, gs0, gsC, lenIs, binD, add_ii, subD, mulD, fdivD, modD, cmpD, ordD, isD, isNn, isNi, isNb, isNt, isNl, isiD, at_l, at_t, fn_lenL, fn_lenT, fn_max2, fn_abs, fn_int, fn_intb, intV, seq_l, seq_t, lstV, fApp, fAugD, fAugI, olS, odS, odH, inS, getElem_s, List.replicate, np__law_next, ht]
  | succ n ih =>
    intro lvm hn hm0 ns k hk
    obtain ⟨m, rfl⟩ : ∃ m, lvm = m + 1 := ⟨lvm - 1, by omega⟩
    rw [f__law_rule]
    obtain ⟨t, t0, t1, ht⟩ := next_lv (lvm := m) (by omega) ns hk (many := 5) (by decide)
    have s0 : evS (Y m) (.asg 2 (.ite (.cmp .gt (.slot 1) (.val (.lit (.int 0)))) (.callW "_law_next" 11 0 (.cons (.lit (.int 5)) .nil)) (.callW "_law_next" 11 0 (.cons (.lit (.int 2)) .nil)))) [some (.odic true (W ns k)), some (.dat (.int ((n + 1 : Nat) : Int))), none, none, none, none] = some (.next, [some (.odic true (W ns (k + 1))), some (.dat (.int ((n + 1 : Nat) : Int))), some (.dat (.int t)), none, none, none]) := by
      have hp : (0 : Int) < ((n + 1 : Nat) : Int) := by omega
      generalize ((n + 1 : Nat) : Int) = q at *
      simp [evB, evS, evE, evL, evO, evOs, evEs, evT, evTs, evI, evC, evP, evDd, evPs, evWs, evG, evGs, fSeq2, aft, fNext, fRet, fIf, fAsg, fAsgL, fAsgT, fAsgD, fPar, fWv, fWl, fW0, setWs, wiS, fLit, fVar, Pf.slotAt, varS, fBin, fNeg, negD, fCmp, fChain, fAnd, fOr, fNot, fBool, boolS, fTest, fIte, fAt, fAtD, fCut, fPart, fNoPart, fOs, fOs0, fFn, fVs, fVs0, fTup, fFresh, fDisp, fTupOf, fListOf, fIsi, fCall, fCallW, fVal, fSlotC, isSet, Pf.rs, Pf.rsS, Pf.rsV, rsAll, rsD, keyD, datS, datsS, setS_s, setS_dv, setS_ol, setS_dat, setS_none, setS_olst, setS_rlst, setS_fdic, setS_odic, gN, gT, gs0, gsC, lenIs, binD, add_ii, subD, mulD, fdivD, modD, cmpD, ordD, isD, isNn, isNi, isNb, isNt, isNl, isiD, at_l, at_t, fn_lenL, fn_lenT, fn_max2, fn_abs, fn_int, fn_intb, intV, seq_l, seq_t, lstV, fApp, fAugD, fAugI, olS, odS, odH, inS, getElem_s, np__law_next, ht, hp]
    by_cases hlow : t = 0 ∨ t = 1
    · obtain ⟨d, k', e, hd, hk', h1⟩ := low (m := m) (by omega) ns ((n + 1 : Nat) : Int) (k := k + 1) (by omega) t hlow
      exact ⟨d, k', .inl hd, hk', fb_ret' (en' := [some (.odic true (W ns k')), some (.dat (.int ((n + 1 : Nat) : Int))), some (.dat (.int t)), none, none, e]) rfl (B_next s0 (h1 _ _)) rfl⟩
    have e0 := eqD_int t 0
    rw [decide_eq_false (by omega)] at e0
    have e1 := eqD_int t 1
    rw [decide_eq_false (by omega)] at e1
    obtain ⟨g, g0, g1, hg⟩ := next_lv (lvm := m) (by omega) ns (k := k + 1) (by omega) (many := 4) (by decide)
    obtain ⟨r, en', h1, k', hk', hrl, hrr, rfl⟩ := comp_inv (vs := [4]) (bd := evG (.name 4)) (cond := evC (Y m) c__law_rule_2c) (elt := evE (Y m) c__law_rule_2e) (P := fun i acc en => ∃ (k : Int), 0 ≤ k ∧ acc.length = i ∧ (∀ r ∈ acc, RR n r) ∧ en = [some (.odic true (W ns k)), some (.dat (.int ((n + 1 : Nat) : Int))), some (.dat (.int t)), none, none, none]) (rngD 0 g.toNat) 0 [] [some (.odic true (W ns (k + 1 + 1))), some (.dat (.int ((n + 1 : Nat) : Int))), some (.dat (.int t)), none, none, none] ⟨k + 1 + 1, by omega, rfl, (fun c hc => by cases hc), rfl⟩ fun j d acc en hd hP => by
      obtain ⟨k, hk, hal, hrr, rfl⟩ := hP
      obtain ⟨hj, rfl⟩ := rngD_at hd
      rw [Int.zero_add]
      obtain ⟨d, k', hR, hk', hq⟩ := ih (lvm := m) (by omega) (by omega) ns hk
      refine ⟨[some (.odic true (W ns k)), some (.dat (.int ((n + 1 : Nat) : Int))), some (.dat (.int t)), none, some (.dat (.int (j : Int))), none], true, [some (.odic true (W ns k)), some (.dat (.int ((n + 1 : Nat) : Int))), some (.dat (.int t)), none, some (.dat (.int (j : Int))), none], rfl, rfl, ?_⟩
      rw [if_pos rfl]
      refine ⟨d, [some (.odic true (W ns k')), some (.dat (.int ((n + 1 : Nat) : Int))), some (.dat (.int t)), none, some (.dat (.int (j : Int))), none], ?_, k', hk', by rw [List.length_append, hal]; rfl, (fun r hr => ?_), rfl⟩
      · have en : ((n + 1 : Nat) : Int) - 1 = (n : Int) := by omega
        generalize ((n + 1 : Nat) : Int) = q at *
        simp [c__law_rule_2e, evB, evS, evE, evL, evO, evOs, evEs, evT, evTs, evI, evC, evP, evDd, evPs, evWs, evG, evGs, fSeq2, aft, fNext, fRet, fIf, fAsg, fAsgL, fAsgT, fAsgD, fPar, fWv, fWl, fW0, setWs, wiS, fLit, fVar, Pf.slotAt, varS, fBin, fNeg, negD, fCmp, fChain, fAnd, fOr, fNot, fBool, boolS, fTest, fIte, fAt, fAtD, fCut, fPart, fNoPart, fOs, fOs0, fFn, fVs, fVs0, fTup, fFresh, fDisp, fTupOf, fListOf, fIsi, fCall, fCallW, fVal, fSlotC, isSet, Pf.rs, Pf.rsS, Pf.rsV, rsAll, rsD, keyD, datS, datsS, setS_s, setS_dv, setS_ol, setS_dat, setS_none, setS_olst, setS_rlst, setS_fdic, setS_odic, gN, gT, gs0, gsC, lenIs, binD, add_ii, subD, mulD, fdivD, modD, cmpD, ordD, isD, isNn, isNi, isNb, isNt, isNl, isiD, at_l, at_t, fn_lenL, fn_lenT, fn_max2, fn_abs, fn_int, fn_intb, intV, seq_l, seq_t, lstV, fApp, fAugD, fAugI, olS, odS, odH, inS, getElem_s, np__law_rule, en, hq]
      · rcases List.mem_append.mp hr with z | z
        · exact hrr r z
        · rw [List.mem_singleton.mp z]; exact hR
    rw [List.nil_append] at hrl hrr
    rw [rngD_len, Nat.zero_add] at hrl
    have hc : evL (Y m) c__law_rule_2 [some (.odic true (W ns (k + 1))), some (.dat (.int ((n + 1 : Nat) : Int))), some (.dat (.int t)), none, none, none] = some (r, [some (.odic true (W ns k')), some (.dat (.int ((n + 1 : Nat) : Int))), some (.dat (.int t)), none, none, none]) := by
      unfold c__law_rule_2
      refine (comp_ev (ds := rngD 0 g.toNat) (en1 := [some (.odic true (W ns (k + 1 + 1))), some (.dat (.int ((n + 1 : Nat) : Int))), some (.dat (.int t)), none, none, none]) (en2 := [some (.odic true (W ns k')), some (.dat (.int ((n + 1 : Nat) : Int))), some (.dat (.int t)), none, none, none]) (r := r) ?_ ?_ ?_).trans rfl
      · generalize ((n + 1 : Nat) : Int) = q at *
        exact rng1_ev (os := [.val (.dat (.int g))]) (m := g) (by simp [evB, evS, evE, evL, evO, evOs, evEs, evT, evTs, evI, evC, evP, evDd, evPs, evWs, evG, evGs, fSeq2, aft, fNext, fRet, fIf, fAsg, fAsgL, fAsgT, fAsgD, fPar, fWv, fWl, fW0, setWs, wiS, fLit, fVar, Pf.slotAt, varS, fBin, fNeg, negD, fCmp, fChain, fAnd, fOr, fNot, fBool, boolS, fTest, fIte, fAt, fAtD, fCut, fPart, fNoPart, fOs, fOs0, fFn, fVs, fVs0, fTup, fFresh, fDisp, fTupOf, fListOf, fIsi, fCall, fCallW, fVal, fSlotC, isSet, Pf.rs, Pf.rsS, Pf.rsV, rsAll, rsD, keyD, datS, datsS, setS_s, setS_dv, setS_ol, setS_dat, setS_none, setS_olst, setS_rlst, setS_fdic, setS_odic, gN, gT, gs0, gsC, lenIs, binD, add_ii, subD, mulD, fdivD, modD, cmpD, ordD, isD, isNn, isNi, isNb, isNt, isNl, isiD, at_l, at_t, fn_lenL, fn_lenT, fn_max2, fn_abs, fn_int, fn_intb, intV, seq_l, seq_t, lstV, fApp, fAugD, fAugI, olS, odS, odH, inS, getElem_s, np__law_next, hg]) (by simp [evB, evS, evE, evL, evO, evOs, evEs, evT, evTs, evI, evC, evP, evDd, evPs, evWs, evG, evGs, fSeq2, aft, fNext, fRet, fIf, fAsg, fAsgL, fAsgT, fAsgD, fPar, fWv, fWl, fW0, setWs, wiS, fLit, fVar, Pf.slotAt, varS, fBin, fNeg, negD, fCmp, fChain, fAnd, fOr, fNot, fBool, boolS, fTest, fIte, fAt, fAtD, fCut, fPart, fNoPart, fOs, fOs0, fFn, fVs, fVs0, fTup, fFresh, fDisp, fTupOf, fListOf, fIsi, fCall, fCallW, fVal, fSlotC, isSet, Pf.rs, Pf.rsS, Pf.rsV, rsAll, rsD, keyD, datS, datsS, setS_s, setS_dv, setS_ol, setS_dat, setS_none, setS_olst, setS_rlst, setS_fdic, setS_odic, gN, gT, gs0, gsC, lenIs, binD, add_ii, subD, mulD, fdivD, modD, cmpD, ordD, isD, isNn, isNi, isNb, isNt, isNl, isiD, at_l, at_t, fn_lenL, fn_lenT, fn_max2, fn_abs, fn_int, fn_intb, intV, seq_l, seq_t, lstV, fApp, fAugD, fAugI, olS, odS, odH, inS, getElem_s]) (by omega) (by omega)
      · rw [rngD_len]; unfold lim; omega
      · exact h1
    have s1 : evS (Y m) (.ife (.cmp .eq (.slot 2) (.val (.lit (.int 0)))) (.cons (.ret (.tup (.cons (.lit (.str "course")) (.cons (.callW "_law_next" 11 0 (.cons (.lit (.int 5)) .nil)) .nil)))) .nil) .nil) [some (.odic true (W ns (k + 1))), some (.dat (.int ((n + 1 : Nat) : Int))), some (.dat (.int t)), none, none, none] = some (.next, [some (.odic true (W ns (k + 1))), some (.dat (.int ((n + 1 : Nat) : Int))), some (.dat (.int t)), none, none, none]) := by
      simp [evB, evS, evE, evL, evO, evOs, evEs, evT, evTs, evI, evC, evP, evDd, evPs, evWs, evG, evGs, fSeq2, aft, fNext, fRet, fIf, fAsg, fAsgL, fAsgT, fAsgD, fPar, fWv, fWl, fW0, setWs, wiS, fLit, fVar, Pf.slotAt, varS, fBin, fNeg, negD, fCmp, fChain, fAnd, fOr, fNot, fBool, boolS, fTest, fIte, fAt, fAtD, fCut, fPart, fNoPart, fOs, fOs0, fFn, fVs, fVs0, fTup, fFresh, fDisp, fTupOf, fListOf, fIsi, fCall, fCallW, fVal, fSlotC, isSet, Pf.rs, Pf.rsS, Pf.rsV, rsAll, rsD, keyD, datS, datsS, setS_s, setS_dv, setS_ol, setS_dat, setS_none, setS_olst, setS_rlst, setS_fdic, setS_odic, gN, gT, gs0, gsC, lenIs, binD, add_ii, subD, mulD, fdivD, modD, cmpD, ordD, isD, isNn, isNi, isNb, isNt, isNl, isiD, at_l, at_t, fn_lenL, fn_lenT, fn_max2, fn_abs, fn_int, fn_intb, intV, seq_l, seq_t, lstV, fApp, fAugD, fAugI, olS, odS, odH, inS, getElem_s, e0]
    have s2 : evS (Y m) (.ife (.cmp .eq (.slot 2) (.val (.lit (.int 1)))) (.cons (.ret (.tup (.cons (.lit (.str "points")) (.cons (.callW "_law_next" 11 0 (.cons (.lit (.int 9)) .nil)) (.cons (.tupOf (.val (.fresh c__law_rule_1))) .nil))))) .nil) .nil) [some (.odic true (W ns (k + 1))), some (.dat (.int ((n + 1 : Nat) : Int))), some (.dat (.int t)), none, none, none] = some (.next, [some (.odic true (W ns (k + 1))), some (.dat (.int ((n + 1 : Nat) : Int))), some (.dat (.int t)), none, none, none]) := by
      simp [evB, evS, evE, evL, evO, evOs, evEs, evT, evTs, evI, evC, evP, evDd, evPs, evWs, evG, evGs, fSeq2, aft, fNext, fRet, fIf, fAsg, fAsgL, fAsgT, fAsgD, fPar, fWv, fWl, fW0, setWs, wiS, fLit, fVar, Pf.slotAt, varS, fBin, fNeg, negD, fCmp, fChain, fAnd, fOr, fNot, fBool, boolS, fTest, fIte, fAt, fAtD, fCut, fPart, fNoPart, fOs, fOs0, fFn, fVs, fVs0, fTup, fFresh, fDisp, fTupOf, fListOf, fIsi, fCall, fCallW, fVal, fSlotC, isSet, Pf.rs, Pf.rsS, Pf.rsV, rsAll, rsD, keyD, datS, datsS, setS_s, setS_dv, setS_ol, setS_dat, setS_none, setS_olst, setS_rlst, setS_fdic, setS_odic, gN, gT, gs0, gsC, lenIs, binD, add_ii, subD, mulD, fdivD, modD, cmpD, ordD, isD, isNn, isNi, isNb, isNt, isNl, isiD, at_l, at_t, fn_lenL, fn_lenT, fn_max2, fn_abs, fn_int, fn_intb, intV, seq_l, seq_t, lstV, fApp, fAugD, fAugI, olS, odS, odH, inS, getElem_s, e1]
    have s3 : evS (Y m) (.asg 3 (.tupOf (.val (.fresh c__law_rule_2)))) [some (.odic true (W ns (k + 1))), some (.dat (.int ((n + 1 : Nat) : Int))), some (.dat (.int t)), none, none, none] = some (.next, [some (.odic true (W ns k')), some (.dat (.int ((n + 1 : Nat) : Int))), some (.dat (.int t)), some (.dat (.tuple r)), none, none]) := by
      generalize ((n + 1 : Nat) : Int) = q at *
      simp [evB, evS, evE, evL, evO, evOs, evEs, evT, evTs, evI, evC, evP, evDd, evPs, evWs, evG, evGs, fSeq2, aft, fNext, fRet, fIf, fAsg, fAsgL, fAsgT, fAsgD, fPar, fWv, fWl, fW0, setWs, wiS, fLit, fVar, Pf.slotAt, varS, fBin, fNeg, negD, fCmp, fChain, fAnd, fOr, fNot, fBool, boolS, fTest, fIte, fAt, fAtD, fCut, fPart, fNoPart, fOs, fOs0, fFn, fVs, fVs0, fTup, fFresh, fDisp, fTupOf, fListOf, fIsi, fCall, fCallW, fVal, fSlotC, isSet, Pf.rs, Pf.rsS, Pf.rsV, rsAll, rsD, keyD, datS, datsS, setS_s, setS_dv, setS_ol, setS_dat, setS_none, setS_olst, setS_rlst, setS_fdic, setS_odic, gN, gT, gs0, gsC, lenIs, binD, add_ii, subD, mulD, fdivD, modD, cmpD, ordD, isD, isNn, isNi, isNb, isNt, isNl, isiD, at_l, at_t, fn_lenL, fn_lenT, fn_max2, fn_abs, fn_int, fn_intb, intV, seq_l, seq_t, lstV, fApp, fAugD, fAugI, olS, odS, odH, inS, getElem_s, hc]
    have e2 := eqD_int t 2
    by_cases h2 : t = 2
    · rw [decide_eq_true h2] at e2
      refine ⟨.tuple [.str "all", .tuple r], k', .inr (.inl ⟨r, rfl, by omega, hrr⟩), hk', fb_ret' (en' := [some (.odic true (W ns k')), some (.dat (.int ((n + 1 : Nat) : Int))), some (.dat (.int t)), some (.dat (.tuple r)), none, none]) rfl (B_next s0 (B_next s1 (B_next s2 (B_next s3 (B_ret ?_))))) rfl⟩
      simp [evB, evS, evE, evL, evO, evOs, evEs, evT, evTs, evI, evC, evP, evDd, evPs, evWs, evG, evGs, fSeq2, aft, fNext, fRet, fIf, fAsg, fAsgL, fAsgT, fAsgD, fPar, fWv, fWl, fW0, setWs, wiS, fLit, fVar, Pf.slotAt, varS, fBin, fNeg, negD, fCmp, fChain, fAnd, fOr, fNot, fBool, boolS, fTest, fIte, fAt, fAtD, fCut, fPart, fNoPart, fOs, fOs0, fFn, fVs, fVs0, fTup, fFresh, fDisp, fTupOf, fListOf, fIsi, fCall, fCallW, fVal, fSlotC, isSet, Pf.rs, Pf.rsS, Pf.rsV, rsAll, rsD, keyD, datS, datsS, setS_s, setS_dv, setS_ol, setS_dat, setS_none, setS_olst, setS_rlst, setS_fdic, setS_odic, gN, gT, gs0, gsC, lenIs, binD, add_ii, subD, mulD, fdivD, modD, cmpD, ordD, isD, isNn, isNi, isNb, isNt, isNl, isiD, at_l, at_t, fn_lenL, fn_lenT, fn_max2, fn_abs, fn_int, fn_intb, intV, seq_l, seq_t, lstV, fApp, fAugD, fAugI, olS, odS, odH, inS, getElem_s, e2, l2]
    · rw [decide_eq_false h2] at e2
      obtain ⟨o, o0, o1, ho⟩ := next_lv (lvm := m) (by omega) ns hk' (many := (r.length : Int) + 1) (by omega)
      refine ⟨.tuple [.str "of", .int o, .tuple r], k' + 1, .inr (.inr ⟨o, r, rfl, by omega, hrr⟩), by omega, fb_ret' (en' := [some (.odic true (W ns (k' + 1))), some (.dat (.int ((n + 1 : Nat) : Int))), some (.dat (.int t)), some (.dat (.tuple r)), none, none]) rfl (B_next s0 (B_next s1 (B_next s2 (B_next s3 (B_ret ?_))))) rfl⟩
      simp [evB, evS, evE, evL, evO, evOs, evEs, evT, evTs, evI, evC, evP, evDd, evPs, evWs, evG, evGs, fSeq2, aft, fNext, fRet, fIf, fAsg, fAsgL, fAsgT, fAsgD, fPar, fWv, fWl, fW0, setWs, wiS, fLit, fVar, Pf.slotAt, varS, fBin, fNeg, negD, fCmp, fChain, fAnd, fOr, fNot, fBool, boolS, fTest, fIte, fAt, fAtD, fCut, fPart, fNoPart, fOs, fOs0, fFn, fVs, fVs0, fTup, fFresh, fDisp, fTupOf, fListOf, fIsi, fCall, fCallW, fVal, fSlotC, isSet, Pf.rs, Pf.rsS, Pf.rsV, rsAll, rsD, keyD, datS, datsS, setS_s, setS_dv, setS_ol, setS_dat, setS_none, setS_olst, setS_rlst, setS_fdic, setS_odic, gN, gT, gs0, gsC, lenIs, binD, add_ii, subD, mulD, fdivD, modD, cmpD, ordD, isD, isNn, isNi, isNb, isNt, isNl, isiD, at_l, at_t, fn_lenL, fn_lenT, fn_max2, fn_abs, fn_int, fn_intb, intV, seq_l, seq_t, lstV, fApp, fAugD, fAugI, olS, odS, odH, inS, getElem_s, e2, l3, np__law_next, ho]

theorem says_ok (n : Nat) (b : Bool) : ((Y (n + 1)).f 13).2 [.dat (.bool b), .dat (.bool b)] = some (.bool true, [.dat (.bool b), .dat (.bool b)]) := by
  rw [f__law_says]
  simp [fBody, b__law_says, evB, evS, evE, evL, evO, evOs, evEs, evT, evTs, evI, evC, evP, evDd, evPs, evWs, evG, evGs, fSeq2, aft, fNext, fRet, fIf, fAsg, fAsgL, fAsgT, fAsgD, fPar, fWv, fWl, fW0, setWs, wiS, fLit, fVar, Pf.slotAt, varS, fBin, fNeg, negD, fCmp, fChain, fAnd, fOr, fNot, fBool, boolS, fTest, fIte, fAt, fAtD, fCut, fPart, fNoPart, fOs, fOs0, fFn, fVs, fVs0, fTup, fFresh, fDisp, fTupOf, fListOf, fIsi, fCall, fCallW, fVal, fSlotC, isSet, Pf.rs, Pf.rsS, Pf.rsV, rsAll, rsD, keyD, datS, datsS, setS_s, setS_dv, setS_ol, setS_dat, setS_none, setS_olst, setS_rlst, setS_fdic, setS_odic, gN, gT, gs0, gsC, lenIs, binD, addD, subD, mulD, fdivD, modD, cmpD, ordD, isD, isN, isiD, at_l, at_t, fn_lenL, fn_lenT, fn_max2, fn_abs, fn_int, fn_intb, intV, seq_l, seq_t, lstV, fApp, fAugD, fAugI, olS, odS, odH, inS, getElem_s, eqD_bool, endV, outs, ownB]


theorem says_lv {lvm : Nat} (hm0 : 1 ≤ lvm) (b : Bool) : ((Y lvm).f 13).2 [.dat (.bool b), .dat (.bool b)] = some (.bool true, [.dat (.bool b), .dat (.bool b)]) :=
  lvl (P := fun lvm => ((Y lvm).f 13).2 [.dat (.bool b), .dat (.bool b)] = some (.bool true, [.dat (.bool b), .dat (.bool b)])) 1 (fun n => says_ok n b) lvm hm0
end K26

set_option maxHeartbeats 4000000
namespace K26
open PySem L2 Pf
theorem Fr_odic (d : List (Key × D)) : Fr (some (.odic false d)) := fun _ _ => rfl
theorem Fr_fdic (d : List (Key × D)) : Fr (some (.fdic d)) := fun _ _ => rfl
theorem look_put (kvs : List (Key × D)) (k k' : Key) (v : D) : lookD (putD kvs k v) k' = if k' = k then some v else lookD kvs k' := by
  unfold putD
  by_cases h : (kvs.any fun kv => decide (kv.1 = k)) = true
  · rw [if_pos h]
    induction kvs with
    | nil => cases h
    | cons q kvs ih =>
      unfold lookD at ih ⊢
      rw [List.map_cons, List.find?_cons, List.find?_cons]
      by_cases hq : q.1 = k
      · rw [if_pos hq]
        by_cases hk : k' = k
        · subst hk
          simp [hq]
        · have e1 : decide ((q.1, v).1 = k') = false := decide_eq_false fun z => hk (z.symm.trans hq)
          have e2 : decide (q.1 = k') = false := decide_eq_false fun z => hk (z.symm.trans hq)
          simp only [e1, e2, if_neg hk]
          by_cases h' : (kvs.any fun kv => decide (kv.1 = k)) = true
          · have := ih h'
            rw [if_neg hk] at this
            exact this
          · have hm : kvs.map (fun kv => if kv.1 = k then (kv.1, v) else kv) = kvs := by
              refine (List.map_congr_left fun x hx => ?_).trans (List.map_id _)
              have : ¬ x.1 = k := fun z => h' (List.any_eq_true.mpr ⟨x, hx, decide_eq_true z⟩)
              rw [if_neg this]
              rfl
            rw [hm]
      · rw [if_neg hq]
        have h' : (kvs.any fun kv => decide (kv.1 = k)) = true := by
          rw [List.any_cons] at h
          simpa [hq] using h
        by_cases hk : q.1 = k'
        · have : ¬ k' = k := fun z => hq (hk.trans z)
          simp [hk, this]
        · rw [decide_eq_false hk]
          exact ih h'
  · rw [if_neg h]
    unfold lookD
    rw [List.find?_append]
    by_cases hk : k' = k
    · subst hk
      have : kvs.find? (fun kv => decide (kv.1 = k')) = none := by
        refine List.find?_eq_none.mpr fun x hx z => h (List.any_eq_true.mpr ⟨x, hx, z⟩)
      rw [this]
      simp
    · have e : [(k, v)].find? (fun kv => decide (kv.1 = k')) = none := by
        rw [List.find?_cons, decide_eq_false (show ¬ (k, v).1 = k' from fun z => hk z.symm)]
        rfl
      rw [e, if_neg hk]
      cases kvs.find? (fun kv => decide (kv.1 = k')) <;> rfl
theorem put_len (kvs : List (Key × D)) (k : Key) (v : D) : (putD kvs k v).length ≤ kvs.length + 1 := by
  unfold putD
  split
  · rw [List.length_map]; omega
  · rw [List.length_append]; exact Nat.le_refl _
/-- a set of courses -/
def Cs (cs : List Int) : Prop := cs.length ≤ 5 ∧ cs.Pairwise (· < ·)
-- slots 2 11
def E (ns dr : List Int) (k : Int) (o2 o3 o4 o5 o6 o7 o8 o9 o10 o11 : Option SV) : En :=
  [some (.rlst (ns.map PyData.int)), some (.odic false (W dr k)), o2, o3, o4, o5, o6, o7, o8, o9, o10, o11]
variable {ns dr : List Int} {k : Int} {o2 o3 o4 o5 o6 o7 o8 o9 o10 o11 : Option SV} {m : Nat}
theorem z1 (hm : 29 ≤ m) (hk : 0 ≤ k) (h3 : Fr o3) (h4 : Fr o4) : ∃ (k' : Int) (d : D), 0 ≤ k' ∧ RR 3 d ∧ evS (Y m) s_law_1 (E ns dr (k) o2 o3 o4 o5 o6 o7 o8 o9 o10 o11) = some (.next, (E ns dr (k') o2 (some (.dat d)) (some (.odic false [])) o5 o6 o7 o8 o9 o10 o11)) := by
  obtain ⟨d, k', hd, hk', h1⟩ := rule_lv (n := 3) (lvm := m) (by omega) (by omega) dr hk
  refine ⟨k', d, hk', hd, ?_⟩
  have h1 : ((Y m).f 18).2 [.odic true (W dr k), .dat (.int 3)] = some (d, [.odic true (W dr k'), .dat (.int 3)]) := h1
  unfold Fr at h3 h4
  simp [s_law_1, evB, evS, evE, evL, evO, evOs, evEs, evT, evTs, evI, evC, evP, evDd, evPs, evWs, evG, evGs, fSeq2, aft, fNext, fRet, fIf, fAsg, fAsgL, fAsgT, fAsgD, fPar, fWv, fWl, fW0, setWs, wiS, fLit, fVar, Pf.slotAt, varS, fBin, fNeg, negD, fCmp, fChain, fAnd, fOr, fNot, fBool, boolS, fTest, fIte, fAt, fAtD, fCut, fPart, fNoPart, fOs, fOs0, fFn, fVs, fVs0, fTup, fFresh, fDisp, fTupOf, fListOf, fIsi, fCall, fCallW, fVal, fSlotC, isSet, Pf.rs, Pf.rsS, Pf.rsV, rsAll, rsD, keyD, datS, datsS, setS_s, setS_dv, setS_ol, setS_dat, setS_none, setS_olst, setS_rlst, setS_fdic, setS_odic, gN, gT, gs0, gsC, lenIs, binD, add_ii, subD, mulD, fdivD, modD, cmpD, ordD, isD, isNn, isNi, isNb, isNt, isNl, isiD, at_l, at_t, fn_lenL, fn_lenT, fn_max2, fn_abs, fn_int, fn_intb, intV, seq_l, seq_t, lstV, fApp, fAugD, fAugI, olS, odS, odH, inS, getElem_s, E, fWd, fNewD, np__law_rule, h1, h3, h4]
theorem z3 (hm : 29 ≤ m) (hk : 0 ≤ k) (h5 : Fr o5) : ∃ (k' : Int) (P : List (Key × D)) (pt : Int → Int) (o5' : Option SV), 0 ≤ k' ∧ (∀ c, 0 ≤ c → c < 5 → lookD P (.inl c) = some (.int (pt c))) ∧ Fr o5' ∧ evS (Y m) s_law_3 (E ns dr (k) o2 o3 (some (.odic false [])) o5 o6 o7 o8 o9 o10 o11) = some (.next, (E ns dr (k') o2 o3 (some (.odic false P)) (o5') o6 o7 o8 o9 o10 o11)) := by
  obtain ⟨en', a1, k', P, o5', hk', hl, hP, f5, rfl⟩ := loop_inv (bd := evG (.name 5)) (body := evB (Y m) b_law_2) (P := fun i en => ∃ (k : Int) (P : List (Key × D)) (o5 : Option SV), 0 ≤ k ∧ P.length ≤ i ∧ (∀ c : Int, 0 ≤ c → c < i → ∃ v, lookD P (.inl c) = some (.int v)) ∧ Fr o5 ∧ en = (E ns dr (k) o2 o3 (some (.odic false P)) o5 o6 o7 o8 o9 o10 o11)) (rngD 0 5) 0 (E ns dr (k) o2 o3 (some (.odic false [])) o5 o6 o7 o8 o9 o10 o11) ⟨k, [], o5, hk, Nat.le_refl _, (fun c h1 h2 => by omega), h5, rfl⟩ fun j d en hd hP => by
    obtain ⟨k, P, o5, hk, hl, hP, h5, rfl⟩ := hP
    obtain ⟨hj, rfl⟩ := rngD_at hd
    rw [Nat.zero_add] at hP hl ⊢
    rw [Int.zero_add]
    obtain ⟨v, v0, v1, hv⟩ := next_lv (lvm := m) (by omega) dr hk (many := 5) (by decide)
    have g5 : setS 5 (.dat (.int (j : Int))) (E ns dr (k) o2 o3 (some (.odic false P)) o5 o6 o7 o8 o9 o10 o11) = some (E ns dr (k) o2 o3 (some (.odic false P)) (some (.dat (.int (j : Int)))) o6 o7 o8 o9 o10 o11) := by
      unfold Fr at h5
      simp [E, setS_s, h5]
    have hlim : P.length < lim := by unfold lim; omega
    refine ⟨_, (E ns dr (k + 1) o2 o3 (some (.odic false (putD P (.inl (j : Int)) (.int v)))) (some (.dat (.int (j : Int)))) o6 o7 o8 o9 o10 o11), g5, B_next ?_ rfl, k + 1, _, _, by omega, Nat.le_trans (put_len _ _ _) (by omega), fun c c0 c1 => ?_, Fr_dat _, rfl⟩
    · simp [s_law_2, evB, evS, evE, evL, evO, evOs, evEs, evT, evTs, evI, evC, evP, evDd, evPs, evWs, evG, evGs, fSeq2, aft, fNext, fRet, fIf, fAsg, fAsgL, fAsgT, fAsgD, fPar, fWv, fWl, fW0, setWs, wiS, fLit, fVar, Pf.slotAt, varS, fBin, fNeg, negD, fCmp, fChain, fAnd, fOr, fNot, fBool, boolS, fTest, fIte, fAt, fAtD, fCut, fPart, fNoPart, fOs, fOs0, fFn, fVs, fVs0, fTup, fFresh, fDisp, fTupOf, fListOf, fIsi, fCall, fCallW, fVal, fSlotC, isSet, Pf.rs, Pf.rsS, Pf.rsV, rsAll, rsD, keyD, datS, datsS, setS_s, setS_dv, setS_ol, setS_dat, setS_none, setS_olst, setS_rlst, setS_fdic, setS_odic, gN, gT, gs0, gsC, lenIs, binD, add_ii, subD, mulD, fdivD, modD, cmpD, ordD, isD, isNn, isNi, isNb, isNt, isNl, isiD, at_l, at_t, fn_lenL, fn_lenT, fn_max2, fn_abs, fn_int, fn_intb, intV, seq_l, seq_t, lstV, fApp, fAugD, fAugI, olS, odS, odH, inS, getElem_s, E, fPutD, np__law_next, hv, hlim]
    · rw [look_put]
      by_cases hc : c = (j : Int)
      · exact ⟨v, if_pos (by rw [hc])⟩
      · rw [if_neg (fun z => hc (by injection z))]
        exact hP c c0 (by omega)
  rw [rngD_len, Nat.zero_add] at hP
  refine ⟨k', P, fun c => match lookD P (.inl c) with | some (.int v) => v | _ => 0, o5', hk', fun c c0 c1 => ?_, f5, ?_⟩
  · obtain ⟨v, hv⟩ := hP c c0 (by omega)
    simp only [hv]
  · unfold s_law_3
    refine for_next (ds := rngD 0 5) (en1 := (E ns dr (k) o2 o3 (some (.odic false [])) o5 o6 o7 o8 o9 o10 o11)) ?_ a1
    exact rng1_ev (k := 5) (os := [.val (.dat (.int 5))]) (m := 5) rfl rfl rfl (by decide)
/-- a comprehension that draws courses -/
theorem cs_comp {cond : M Bool} {elt : M SV} {G : Int → Option SV → En} (hG : ∀ k c, gN 5 (.int c) (G k none) = some (G k (some (.dat (.int c))))) (hw : ∀ k (o : Option SV), wipeE (G k o) [5] = G k none) (hc : ∀ k c, 0 ≤ k → ∃ b, cond (G k (some (.dat (.int c)))) = some (b, G (k + 1) (some (.dat (.int c))))) (he : ∀ k c, elt (G k (some (.dat (.int c)))) = some (.dat (.int c), G k (some (.dat (.int c))))) (hk : 0 ≤ k) :
    ∃ (k' : Int) (cs : List Int), 0 ≤ k' ∧ Cs cs ∧ cLoop [5] (evG (.name 5)) cond elt (rngD 0 5) (G k none) = some (il cs, G k' none) := by
  obtain ⟨r, en', h1, k', cs, hk', hr, ⟨hcl, hcs, hp⟩, rfl⟩ := comp_inv (vs := [5]) (bd := evG (.name 5)) (cond := cond) (elt := elt) (P := fun i acc en => ∃ (k : Int) (cs : List Int), 0 ≤ k ∧ acc = il cs ∧ (cs.length ≤ i ∧ (∀ c ∈ cs, c < i) ∧ cs.Pairwise (· < ·)) ∧ en = G k none) (rngD 0 5) 0 [] (G k none) ⟨k, [], hk, rfl, ⟨Nat.le_refl _, (fun c hc => by cases hc), List.Pairwise.nil⟩, rfl⟩ fun j d acc en hd hP => by
    obtain ⟨k, cs, hk, rfl, ⟨hcl, hcs, hp⟩, rfl⟩ := hP
    obtain ⟨hj, rfl⟩ := rngD_at hd
    rw [Int.zero_add]
    rw [Nat.zero_add] at hcl hcs ⊢
    obtain ⟨b, hb⟩ := hc k (j : Int) hk
    refine ⟨_, b, _, hG k _, hb, ?_⟩
    split
    · refine ⟨.int (j : Int), _, he _ _, k + 1, cs ++ [(j : Int)], by omega, by unfold il; rw [List.map_append]; rfl, ⟨by rw [List.length_append, List.length_singleton]; omega, (fun c hc => ?_), ?_⟩, hw _ _⟩
      · rcases List.mem_append.mp hc with z | z
        · have := hcs c z; omega
        · rw [List.mem_singleton.mp z]; omega
      · refine List.pairwise_append.mpr ⟨hp, List.pairwise_singleton _ _, fun a ha b hb => ?_⟩
        rw [List.mem_singleton.mp hb]
        exact hcs a ha
    · exact ⟨k + 1, cs, by omega, rfl, ⟨by omega, (fun c hc => by have := hcs c hc; omega), hp⟩, hw _ _⟩
  rw [List.nil_append] at hr
  subst hr
  rw [rngD_len, Nat.zero_add] at hcl
  exact ⟨k', cs, hk', ⟨hcl, hp⟩, h1⟩
theorem z4 (hm : 29 ≤ m) (hk : 0 ≤ k) (h6 : Fr o6) : ∃ (k' : Int) (tk : List Int), 0 ≤ k' ∧ Cs tk ∧ evS (Y m) s_law_4 (E ns dr (k) o2 o3 o4 o5 o6 o7 o8 o9 o10 o11) = some (.next, (E ns dr (k') o2 o3 o4 o5 (some (.dat (tl tk))) o7 o8 o9 o10 o11)) := by
  obtain ⟨k', tk, hk', ht, h1⟩ := cs_comp (k := k) (cond := evC (Y m) c_law_1c) (elt := evE (Y m) c_law_1e) (G := fun k o => (E ns dr (k) o2 o3 o4 (o) o6 o7 o8 o9 o10 o11)) (fun _ _ => rfl) (fun _ _ => rfl) (fun k c hk => by
    obtain ⟨q, q0, q1, hq⟩ := next_lv (lvm := m) (by omega) dr hk (many := 4) (by decide)
    have e0 := eqD_int q 0
    refine ⟨decide (q = 0), ?_⟩
    generalize decide (q = 0) = b at *
    simp [c_law_1c, evB, evS, evE, evL, evO, evOs, evEs, evT, evTs, evI, evC, evP, evDd, evPs, evWs, evG, evGs, fSeq2, aft, fNext, fRet, fIf, fAsg, fAsgL, fAsgT, fAsgD, fPar, fWv, fWl, fW0, setWs, wiS, fLit, fVar, Pf.slotAt, varS, fBin, fNeg, negD, fCmp, fChain, fAnd, fOr, fNot, fBool, boolS, fTest, fIte, fAt, fAtD, fCut, fPart, fNoPart, fOs, fOs0, fFn, fVs, fVs0, fTup, fFresh, fDisp, fTupOf, fListOf, fIsi, fCall, fCallW, fVal, fSlotC, isSet, Pf.rs, Pf.rsS, Pf.rsV, rsAll, rsD, keyD, datS, datsS, setS_s, setS_dv, setS_ol, setS_dat, setS_none, setS_olst, setS_rlst, setS_fdic, setS_odic, gN, gT, gs0, gsC, lenIs, binD, add_ii, subD, mulD, fdivD, modD, cmpD, ordD, isD, isNn, isNi, isNb, isNt, isNl, isiD, at_l, at_t, fn_lenL, fn_lenT, fn_max2, fn_abs, fn_int, fn_intb, intV, seq_l, seq_t, lstV, fApp, fAugD, fAugI, olS, odS, odH, inS, getElem_s, E, np__law_next, hq, e0]) (fun k c => by simp [c_law_1e, evB, evS, evE, evL, evO, evOs, evEs, evT, evTs, evI, evC, evP, evDd, evPs, evWs, evG, evGs, fSeq2, aft, fNext, fRet, fIf, fAsg, fAsgL, fAsgT, fAsgD, fPar, fWv, fWl, fW0, setWs, wiS, fLit, fVar, Pf.slotAt, varS, fBin, fNeg, negD, fCmp, fChain, fAnd, fOr, fNot, fBool, boolS, fTest, fIte, fAt, fAtD, fCut, fPart, fNoPart, fOs, fOs0, fFn, fVs, fVs0, fTup, fFresh, fDisp, fTupOf, fListOf, fIsi, fCall, fCallW, fVal, fSlotC, isSet, Pf.rs, Pf.rsS, Pf.rsV, rsAll, rsD, keyD, datS, datsS, setS_s, setS_dv, setS_ol, setS_dat, setS_none, setS_olst, setS_rlst, setS_fdic, setS_odic, gN, gT, gs0, gsC, lenIs, binD, add_ii, subD, mulD, fdivD, modD, cmpD, ordD, isD, isNn, isNi, isNb, isNt, isNl, isiD, at_l, at_t, fn_lenL, fn_lenT, fn_max2, fn_abs, fn_int, fn_intb, intV, seq_l, seq_t, lstV, fApp, fAugD, fAugI, olS, odS, odH, inS, getElem_s, E]) hk
  refine ⟨k', tk, hk', ht, ?_⟩
  have hc : evL (Y m) c_law_1 (E ns dr (k) o2 o3 o4 o5 o6 o7 o8 o9 o10 o11) = some (il tk, (E ns dr (k') o2 o3 o4 o5 o6 o7 o8 o9 o10 o11)) := by
    unfold c_law_1
    refine (comp_ev (ds := rngD 0 5) (en1 := (E ns dr (k) o2 o3 o4 o5 o6 o7 o8 o9 o10 o11)) (en2 := (E ns dr (k') o2 o3 o4 (none) o6 o7 o8 o9 o10 o11)) (r := il tk) ?_ ?_ ?_).trans rfl
    · exact rng1_ev (k := 5) (os := [.val (.dat (.int 5))]) (m := 5) rfl rfl rfl (by decide)
    · rw [rngD_len]; decide
    · exact h1
  have e3 : tl tk = .tuple (il tk) := rfl
  rw [e3]
  generalize il tk = xs at *
  unfold Fr at h6
  unfold E at *
  simp [s_law_4, evB, evS, evE, evL, evO, evOs, evEs, evT, evTs, evI, evC, evP, evDd, evPs, evWs, evG, evGs, fSeq2, aft, fNext, fRet, fIf, fAsg, fAsgL, fAsgT, fAsgD, fPar, fWv, fWl, fW0, setWs, wiS, fLit, fVar, Pf.slotAt, varS, fBin, fNeg, negD, fCmp, fChain, fAnd, fOr, fNot, fBool, boolS, fTest, fIte, fAt, fAtD, fCut, fPart, fNoPart, fOs, fOs0, fFn, fVs, fVs0, fTup, fFresh, fDisp, fTupOf, fListOf, fIsi, fCall, fCallW, fVal, fSlotC, isSet, Pf.rs, Pf.rsS, Pf.rsV, rsAll, rsD, keyD, datS, datsS, setS_s, setS_dv, setS_ol, setS_dat, setS_none, setS_olst, setS_rlst, setS_fdic, setS_odic, gN, gT, gs0, gsC, lenIs, binD, add_ii, subD, mulD, fdivD, modD, cmpD, ordD, isD, isNn, isNi, isNb, isNt, isNl, isiD, at_l, at_t, fn_lenL, fn_lenT, fn_max2, fn_abs, fn_int, fn_intb, intV, seq_l, seq_t, lstV, fApp, fAugD, fAugI, olS, odS, odH, inS, getElem_s, hc, h6]
theorem z5 (hm : 29 ≤ m) (hk : 0 ≤ k) (h7 : Fr o7) : ∃ (k' : Int) (tk : List Int), 0 ≤ k' ∧ Cs tk ∧ evS (Y m) s_law_5 (E ns dr (k) o2 o3 o4 o5 o6 o7 o8 o9 o10 o11) = some (.next, (E ns dr (k') o2 o3 o4 o5 o6 (some (.dat (tl tk))) o8 o9 o10 o11)) := by
  obtain ⟨k', tk, hk', ht, h1⟩ := cs_comp (k := k) (cond := evC (Y m) c_law_2c) (elt := evE (Y m) c_law_2e) (G := fun k o => (E ns dr (k) o2 o3 o4 (o) o6 o7 o8 o9 o10 o11)) (fun _ _ => rfl) (fun _ _ => rfl) (fun k c hk => by
    obtain ⟨q, q0, q1, hq⟩ := next_lv (lvm := m) (by omega) dr hk (many := 4) (by decide)
    refine ⟨decide (0 < q), ?_⟩
    simp [c_law_2c, evB, evS, evE, evL, evO, evOs, evEs, evT, evTs, evI, evC, evP, evDd, evPs, evWs, evG, evGs, fSeq2, aft, fNext, fRet, fIf, fAsg, fAsgL, fAsgT, fAsgD, fPar, fWv, fWl, fW0, setWs, wiS, fLit, fVar, Pf.slotAt, varS, fBin, fNeg, negD, fCmp, fChain, fAnd, fOr, fNot, fBool, boolS, fTest, fIte, fAt, fAtD, fCut, fPart, fNoPart, fOs, fOs0, fFn, fVs, fVs0, fTup, fFresh, fDisp, fTupOf, fListOf, fIsi, fCall, fCallW, fVal, fSlotC, isSet, Pf.rs, Pf.rsS, Pf.rsV, rsAll, rsD, keyD, datS, datsS, setS_s, setS_dv, setS_ol, setS_dat, setS_none, setS_olst, setS_rlst, setS_fdic, setS_odic, gN, gT, gs0, gsC, lenIs, binD, add_ii, subD, mulD, fdivD, modD, cmpD, ordD, isD, isNn, isNi, isNb, isNt, isNl, isiD, at_l, at_t, fn_lenL, fn_lenT, fn_max2, fn_abs, fn_int, fn_intb, intV, seq_l, seq_t, lstV, fApp, fAugD, fAugI, olS, odS, odH, inS, getElem_s, E, np__law_next, hq]) (fun k c => by simp [c_law_2e, evB, evS, evE, evL, evO, evOs, evEs, evT, evTs, evI, evC, evP, evDd, evPs, evWs, evG, evGs, fSeq2, aft, fNext, fRet, fIf, fAsg, fAsgL, fAsgT, fAsgD, fPar, fWv, fWl, fW0, setWs, wiS, fLit, fVar, Pf.slotAt, varS, fBin, fNeg, negD, fCmp, fChain, fAnd, fOr, fNot, fBool, boolS, fTest, fIte, fAt, fAtD, fCut, fPart, fNoPart, fOs, fOs0, fFn, fVs, fVs0, fTup, fFresh, fDisp, fTupOf, fListOf, fIsi, fCall, fCallW, fVal, fSlotC, isSet, Pf.rs, Pf.rsS, Pf.rsV, rsAll, rsD, keyD, datS, datsS, setS_s, setS_dv, setS_ol, setS_dat, setS_none, setS_olst, setS_rlst, setS_fdic, setS_odic, gN, gT, gs0, gsC, lenIs, binD, add_ii, subD, mulD, fdivD, modD, cmpD, ordD, isD, isNn, isNi, isNb, isNt, isNl, isiD, at_l, at_t, fn_lenL, fn_lenT, fn_max2, fn_abs, fn_int, fn_intb, intV, seq_l, seq_t, lstV, fApp, fAugD, fAugI, olS, odS, odH, inS, getElem_s, E]) hk
  refine ⟨k', tk, hk', ht, ?_⟩
  have hc : evL (Y m) c_law_2 (E ns dr (k) o2 o3 o4 o5 o6 o7 o8 o9 o10 o11) = some (il tk, (E ns dr (k') o2 o3 o4 o5 o6 o7 o8 o9 o10 o11)) := by
    unfold c_law_2
    refine (comp_ev (ds := rngD 0 5) (en1 := (E ns dr (k) o2 o3 o4 o5 o6 o7 o8 o9 o10 o11)) (en2 := (E ns dr (k') o2 o3 o4 (none) o6 o7 o8 o9 o10 o11)) (r := il tk) ?_ ?_ ?_).trans rfl
    · exact rng1_ev (k := 5) (os := [.val (.dat (.int 5))]) (m := 5) rfl rfl rfl (by decide)
    · rw [rngD_len]; decide
    · exact h1
  have e3 : tl tk = .tuple (il tk) := rfl
  rw [e3]
  generalize il tk = xs at *
  unfold Fr at h7
  unfold E at *
  simp [s_law_5, evB, evS, evE, evL, evO, evOs, evEs, evT, evTs, evI, evC, evP, evDd, evPs, evWs, evG, evGs, fSeq2, aft, fNext, fRet, fIf, fAsg, fAsgL, fAsgT, fAsgD, fPar, fWv, fWl, fW0, setWs, wiS, fLit, fVar, Pf.slotAt, varS, fBin, fNeg, negD, fCmp, fChain, fAnd, fOr, fNot, fBool, boolS, fTest, fIte, fAt, fAtD, fCut, fPart, fNoPart, fOs, fOs0, fFn, fVs, fVs0, fTup, fFresh, fDisp, fTupOf, fListOf, fIsi, fCall, fCallW, fVal, fSlotC, isSet, Pf.rs, Pf.rsS, Pf.rsV, rsAll, rsD, keyD, datS, datsS, setS_s, setS_dv, setS_ol, setS_dat, setS_none, setS_olst, setS_rlst, setS_fdic, setS_odic, gN, gT, gs0, gsC, lenIs, binD, add_ii, subD, mulD, fdivD, modD, cmpD, ordD, isD, isNn, isNi, isNb, isNt, isNl, isiD, at_l, at_t, fn_lenL, fn_lenT, fn_max2, fn_abs, fn_int, fn_intb, intV, seq_l, seq_t, lstV, fApp, fAugD, fAugI, olS, odS, odH, inS, getElem_s, hc, h7]
variable {P : List (Key × D)} {pt : Int → Int} {tk cs : List Int} {d : D}
theorem z6 (hm : 29 ≤ m) (hP : ∀ c, 0 ≤ c → c < 5 → lookD P (.inl c) = some (.int (pt c))) (hd : RR 3 d) : evS (Y m) s_law_6 (E ns dr (k) o2 (some (.dat d)) (some (.odic false P)) o5 (some (.dat (tl tk))) o7 o8 o9 o10 o11) = some (.next, (E ns dr (k) o2 (some (.dat d)) (some (.fdic P)) o5 (some (.dat (tl tk))) o7 o8 o9 o10 o11)) := by
  have c1 := is_done_lv (tk := tk) (mem := fun c => decide (c ∈ tk)) hP (fun _ => rfl) (lvm := m) (by omega) hd
  have c2 := law_done_lv (tk := tk) (mem := fun c => decide (c ∈ tk)) hP (fun _ => rfl) (lvm := m) (by omega) (by omega) hd
  have c3 := says_lv (lvm := m) (by omega) (dn pt (fun c => decide (c ∈ tk)) 3 d)
  generalize dn pt (fun c => decide (c ∈ tk)) 3 d = b at *
  generalize tl tk = S at *
  simp [s_law_6, evB, evS, evE, evL, evO, evOs, evEs, evT, evTs, evI, evC, evP, evDd, evPs, evWs, evG, evGs, fSeq2, aft, fNext, fRet, fIf, fAsg, fAsgL, fAsgT, fAsgD, fPar, fWv, fWl, fW0, setWs, wiS, fLit, fVar, Pf.slotAt, varS, fBin, fNeg, negD, fCmp, fChain, fAnd, fOr, fNot, fBool, boolS, fTest, fIte, fAt, fAtD, fCut, fPart, fNoPart, fOs, fOs0, fFn, fVs, fVs0, fTup, fFresh, fDisp, fTupOf, fListOf, fIsi, fCall, fCallW, fVal, fSlotC, isSet, Pf.rs, Pf.rsS, Pf.rsV, rsAll, rsD, keyD, datS, datsS, setS_s, setS_dv, setS_ol, setS_dat, setS_none, setS_olst, setS_rlst, setS_fdic, setS_odic, gN, gT, gs0, gsC, lenIs, binD, add_ii, subD, mulD, fdivD, modD, cmpD, ordD, isD, isNn, isNi, isNb, isNt, isNl, isiD, at_l, at_t, fn_lenL, fn_lenT, fn_max2, fn_abs, fn_int, fn_intb, intV, seq_l, seq_t, lstV, fApp, fAugD, fAugI, olS, odS, odH, inS, getElem_s, E, fFreshD, fCopyD, np_is_done, np__law_done, np__law_says, c1, c2, c3]
theorem z7 (h8 : Fr o8) : evS (Y m) s_law_7 (E ns dr (k) o2 o3 o4 o5 o6 o7 o8 o9 o10 o11) = some (.next, (E ns dr (k) o2 o3 o4 o5 o6 o7 (some (.dat (.list []))) o9 o10 o11)) := by
  have l0 : (0 : Nat) ≤ lim := by decide
  unfold Fr at h8
  simp [s_law_7, evB, evS, evE, evL, evO, evOs, evEs, evT, evTs, evI, evC, evP, evDd, evPs, evWs, evG, evGs, fSeq2, aft, fNext, fRet, fIf, fAsg, fAsgL, fAsgT, fAsgD, fPar, fWv, fWl, fW0, setWs, wiS, fLit, fVar, Pf.slotAt, varS, fBin, fNeg, negD, fCmp, fChain, fAnd, fOr, fNot, fBool, boolS, fTest, fIte, fAt, fAtD, fCut, fPart, fNoPart, fOs, fOs0, fFn, fVs, fVs0, fTup, fFresh, fDisp, fTupOf, fListOf, fIsi, fCall, fCallW, fVal, fSlotC, isSet, Pf.rs, Pf.rsS, Pf.rsV, rsAll, rsD, keyD, datS, datsS, setS_s, setS_dv, setS_ol, setS_dat, setS_none, setS_olst, setS_rlst, setS_fdic, setS_odic, gN, gT, gs0, gsC, lenIs, binD, add_ii, subD, mulD, fdivD, modD, cmpD, ordD, isD, isNn, isNi, isNb, isNt, isNl, isiD, at_l, at_t, fn_lenL, fn_lenT, fn_max2, fn_abs, fn_int, fn_intb, intV, seq_l, seq_t, lstV, fApp, fAugD, fAugI, olS, odS, odH, inS, getElem_s, E, l0, h8]
/-- those sets by which the rule is done -/
def fD (pt : Int → Int) (tk : List Int) (d : D) (s : List Int) : Bool := dn pt (fun c => decide (c ∈ tk ++ s)) 3 d
theorem lft_lt (h : Cs cs) : (lft tk cs).Pairwise (· < ·) := h.2.filter _
theorem lft_len (h : Cs cs) : (lft tk cs).length ≤ 5 := Nat.le_trans (List.length_filter_le _ _) h.1
theorem alls_len {l : List Int} (h : l.length ≤ 5) : (alls l).length ≤ 192 := by
  have := fl_len l h (l.length + 1)
  unfold alls
  omega
theorem z9 (hm : 29 ≤ m) (hP : ∀ c, 0 ≤ c → c < 5 → lookD P (.inl c) = some (.int (pt c))) (hd : RR 3 d) (ht : Cs tk) (hc : Cs cs) (h9 : Fr o9) : ∃ o9', Fr o9' ∧ evS (Y m) s_law_9 (E ns dr (k) o2 (some (.dat d)) (some (.fdic P)) o5 (some (.dat (tl tk))) (some (.dat (tl cs))) (some (.dat (.list []))) o9 o10 o11) = some (.next, (E ns dr (k) o2 (some (.dat d)) (some (.fdic P)) o5 (some (.dat (tl tk))) (some (.dat (tl cs))) (some (.dat (.list (((alls (lft tk cs)).filter (fD pt tk d)).map tl)))) (o9') o10 o11)) := by
  have hal := alls_len (lft_len (tk := tk) hc)
  obtain ⟨en', a1, o9', f9, rfl⟩ := loop_inv (bd := evG (.name 9)) (body := evB (Y m) b_law_3) (P := fun i en => ∃ (o9 : Option SV), Fr o9 ∧ en = (E ns dr (k) o2 (some (.dat d)) (some (.fdic P)) o5 (some (.dat (tl tk))) (some (.dat (tl cs))) (some (.dat (.list ((((alls (lft tk cs)).take i).filter (fD pt tk d)).map tl)))) o9 o10 o11)) ((alls (lft tk cs)).map tl) 0 (E ns dr (k) o2 (some (.dat d)) (some (.fdic P)) o5 (some (.dat (tl tk))) (some (.dat (tl cs))) (some (.dat (.list []))) o9 o10 o11) ⟨o9, h9, rfl⟩ fun j d' en hd' hP' => by
    obtain ⟨o9, h9, rfl⟩ := hP'
    rw [Nat.zero_add]
    rw [List.getElem?_map] at hd'
    obtain ⟨s, hs, rfl⟩ := Option.map_eq_some_iff.mp hd'
    obtain ⟨hj, hs⟩ := List.getElem?_eq_some_iff.mp hs
    have hmem : s ∈ alls (lft tk cs) := by rw [← hs]; exact List.getElem_mem hj
    have hsl := ((alls_mem _ _).mp hmem).length_le
    have hll := lft_len (tk := tk) hc
    have h5 := ht.1
    have ha := add_tl (s := tk) (t := s) (by omega)
    have c2 := law_done_lv (tk := tk ++ s) (mem := fun c => decide (c ∈ tk ++ s)) hP (fun _ => rfl) (lvm := m) (by omega) (by omega) hd
    have hsn : (alls (lft tk cs)).take (j + 1) = (alls (lft tk cs)).take j ++ [s] := by rw [List.take_succ_eq_append_getElem hj, hs]
    have hfl : (((alls (lft tk cs)).take j).filter (fD pt tk d)).length ≤ 192 := Nat.le_trans (List.length_filter_le _ _) (by rw [List.length_take]; omega)
    have key : (((alls (lft tk cs)).take (j + 1)).filter (fD pt tk d)).map tl = (((alls (lft tk cs)).take j).filter (fD pt tk d)).map tl ++ if fD pt tk d s = true then [tl s] else [] := by
      rw [hsn, List.filter_append, List.map_append]
      congr 1
      cases hf : fD pt tk d s <;> simp [hf]
    rw [key]
    have ef : fD pt tk d s = dn pt (fun c => decide (c ∈ tk ++ s)) 3 d := rfl
    rw [← ef] at c2
    have hfl2 : ((((alls (lft tk cs)).take j).filter (fD pt tk d)).map tl).length ≤ 192 := by rw [List.length_map]; exact hfl
    generalize (((alls (lft tk cs)).take j).filter (fD pt tk d)).map tl = A at *
    have a2 : ∀ x : D, addD (.list A) (.list [x]) = some (.list (A ++ [x])) := fun x => add_ll (by rw [List.length_singleton]; unfold lim; omega)
    have a3 : addD (.list A) (.list []) = some (.list (A ++ [])) := add_ll (by rw [List.length_nil]; unfold lim; omega)
    have l0 : (0 : Nat) ≤ lim := by decide
    have l1 : (1 : Nat) ≤ lim := by decide
    have ab : ∀ a b, binD .add a b = addD a b := fun _ _ => rfl
    generalize tl (tk ++ s) = S2 at *
    generalize tl s = S1 at *
    generalize tl tk = S3 at *
    generalize tl cs = S4 at *
    have g9 : setS 9 (.dat S1) (E ns dr (k) o2 (some (.dat d)) (some (.fdic P)) o5 (some (.dat S3)) (some (.dat S4)) (some (.dat (.list A))) o9 o10 o11) = some (E ns dr (k) o2 (some (.dat d)) (some (.fdic P)) o5 (some (.dat S3)) (some (.dat S4)) (some (.dat (.list A))) (some (.dat S1)) o10 o11) := by
      unfold Fr at h9
      simp [E, setS_s, h9]
    refine ⟨_, (E ns dr (k) o2 (some (.dat d)) (some (.fdic P)) o5 (some (.dat S3)) (some (.dat S4)) (some (.dat (.list (A ++ if fD pt tk d s = true then [S1] else [])))) (some (.dat S1)) o10 o11), g9, B_next ?_ rfl, _, Fr_dat _, rfl⟩
    generalize fD pt tk d s = b at *
    cases b
    · simp [s_law_8, evS, fAsg, evE, evO, fBin, fVal, fIte, evT, fBool, fCall, evEs, fVs, fVs0, fVar, Pf.slotAt, varS, fSlotC, isSet, Pf.rs, Pf.rsS, Pf.rsV, E, ab, ha, a3, np__law_done, c2, boolS, fFresh, evL, fDisp, datsS, datS, l0, setS_s, setS_dat]
    · simp [s_law_8, evS, fAsg, evE, evO, fBin, fVal, fIte, evT, fBool, fCall, evEs, fVs, fVs0, fVar, Pf.slotAt, varS, fSlotC, isSet, Pf.rs, Pf.rsS, Pf.rsV, E, ab, ha, a2, np__law_done, c2, boolS, fFresh, evL, fDisp, datsS, datS, l1, setS_s, setS_dat]
  rw [Nat.zero_add, List.length_map, List.take_length] at a1
  refine ⟨o9', f9, ?_⟩
  unfold s_law_9
  refine for_next (ds := (alls (lft tk cs)).map tl) (en1 := (E ns dr (k) o2 (some (.dat d)) (some (.fdic P)) o5 (some (.dat (tl tk))) (some (.dat (tl cs))) (some (.dat (.list []))) o9 o10 o11)) ?_ a1
  have hcomp := notin_comp (m := m) (tk := tk) (cs := cs) (vs := [5]) (bd := evG (.name 5)) (cond := evC (Y m) c_law_3c) (elt := evE (Y m) c_law_3e) (en := (E ns dr (k) o2 (some (.dat d)) (some (.fdic P)) (none) (some (.dat (tl tk))) (some (.dat (tl cs))) (some (.dat (.list []))) o9 o10 o11)) fun c hc => by
    have hin := inD_tl c tk
    refine ⟨(E ns dr (k) o2 (some (.dat d)) (some (.fdic P)) (some (.dat (.int c))) (some (.dat (tl tk))) (some (.dat (tl cs))) (some (.dat (.list []))) o9 o10 o11), (E ns dr (k) o2 (some (.dat d)) (some (.fdic P)) (some (.dat (.int c))) (some (.dat (tl tk))) (some (.dat (tl cs))) (some (.dat (.list []))) o9 o10 o11), rfl, ?_, ?_⟩
    · generalize decide (c ∈ tk) = v at *
      generalize tl tk = S at *
      simp [c_law_3c, evB, evS, evE, evL, evO, evOs, evEs, evT, evTs, evI, evC, evP, evDd, evPs, evWs, evG, evGs, fSeq2, aft, fNext, fRet, fIf, fAsg, fAsgL, fAsgT, fAsgD, fPar, fWv, fWl, fW0, setWs, wiS, fLit, fVar, Pf.slotAt, varS, fBin, fNeg, negD, fCmp, fChain, fAnd, fOr, fNot, fBool, boolS, fTest, fIte, fAt, fAtD, fCut, fPart, fNoPart, fOs, fOs0, fFn, fVs, fVs0, fTup, fFresh, fDisp, fTupOf, fListOf, fIsi, fCall, fCallW, fVal, fSlotC, isSet, Pf.rs, Pf.rsS, Pf.rsV, rsAll, rsD, keyD, datS, datsS, setS_s, setS_dv, setS_ol, setS_dat, setS_none, setS_olst, setS_rlst, setS_fdic, setS_odic, gN, gT, gs0, gsC, lenIs, binD, add_ii, subD, mulD, fdivD, modD, cmpD, ordD, isD, isNn, isNi, isNb, isNt, isNl, isiD, at_l, at_t, fn_lenL, fn_lenT, fn_max2, fn_abs, fn_int, fn_intb, intV, seq_l, seq_t, lstV, fApp, fAugD, fAugI, olS, odS, odH, inS, getElem_s, E, hin]
    · split
      · exact ⟨(E ns dr (k) o2 (some (.dat d)) (some (.fdic P)) (some (.dat (.int c))) (some (.dat (tl tk))) (some (.dat (tl cs))) (some (.dat (.list []))) o9 o10 o11), by simp [c_law_3e, evB, evS, evE, evL, evO, evOs, evEs, evT, evTs, evI, evC, evP, evDd, evPs, evWs, evG, evGs, fSeq2, aft, fNext, fRet, fIf, fAsg, fAsgL, fAsgT, fAsgD, fPar, fWv, fWl, fW0, setWs, wiS, fLit, fVar, Pf.slotAt, varS, fBin, fNeg, negD, fCmp, fChain, fAnd, fOr, fNot, fBool, boolS, fTest, fIte, fAt, fAtD, fCut, fPart, fNoPart, fOs, fOs0, fFn, fVs, fVs0, fTup, fFresh, fDisp, fTupOf, fListOf, fIsi, fCall, fCallW, fVal, fSlotC, isSet, Pf.rs, Pf.rsS, Pf.rsV, rsAll, rsD, keyD, datS, datsS, setS_s, setS_dv, setS_ol, setS_dat, setS_none, setS_olst, setS_rlst, setS_fdic, setS_odic, gN, gT, gs0, gsC, lenIs, binD, add_ii, subD, mulD, fdivD, modD, cmpD, ordD, isD, isNn, isNi, isNb, isNt, isNl, isiD, at_l, at_t, fn_lenL, fn_lenT, fn_max2, fn_abs, fn_int, fn_intb, intV, seq_l, seq_t, lstV, fApp, fAugD, fAugI, olS, odS, odH, inS, getElem_s, E], rfl⟩
      · rfl
  have hcl : evL (Y m) c_law_3 (E ns dr (k) o2 (some (.dat d)) (some (.fdic P)) o5 (some (.dat (tl tk))) (some (.dat (tl cs))) (some (.dat (.list []))) o9 o10 o11) = some (il (lft tk cs), (E ns dr (k) o2 (some (.dat d)) (some (.fdic P)) o5 (some (.dat (tl tk))) (some (.dat (tl cs))) (some (.dat (.list []))) o9 o10 o11)) := by
    unfold c_law_3
    refine (comp_ev (ds := il cs) (en1 := (E ns dr (k) o2 (some (.dat d)) (some (.fdic P)) o5 (some (.dat (tl tk))) (some (.dat (tl cs))) (some (.dat (.list []))) o9 o10 o11)) (en2 := (E ns dr (k) o2 (some (.dat d)) (some (.fdic P)) (none) (some (.dat (tl tk))) (some (.dat (tl cs))) (some (.dat (.list []))) o9 o10 o11)) (r := il (lft tk cs)) ?_ ?_ ?_).trans rfl
    · have h3 : seqV (tl cs) = some (il cs) := rfl
      unfold c_law_3i
      rw [evI]; unfold fSeq
      generalize tl cs = S at *
      simp [evB, evS, evE, evL, evO, evOs, evEs, evT, evTs, evI, evC, evP, evDd, evPs, evWs, evG, evGs, fSeq2, aft, fNext, fRet, fIf, fAsg, fAsgL, fAsgT, fAsgD, fPar, fWv, fWl, fW0, setWs, wiS, fLit, fVar, Pf.slotAt, varS, fBin, fNeg, negD, fCmp, fChain, fAnd, fOr, fNot, fBool, boolS, fTest, fIte, fAt, fAtD, fCut, fPart, fNoPart, fOs, fOs0, fFn, fVs, fVs0, fTup, fFresh, fDisp, fTupOf, fListOf, fIsi, fCall, fCallW, fVal, fSlotC, isSet, Pf.rs, Pf.rsS, Pf.rsV, rsAll, rsD, keyD, datS, datsS, setS_s, setS_dv, setS_ol, setS_dat, setS_none, setS_olst, setS_rlst, setS_fdic, setS_odic, gN, gT, gs0, gsC, lenIs, binD, add_ii, subD, mulD, fdivD, modD, cmpD, ordD, isD, isNn, isNi, isNb, isNt, isNl, isiD, at_l, at_t, fn_lenL, fn_lenT, fn_max2, fn_abs, fn_int, fn_intb, intV, seq_l, seq_t, lstV, fApp, fAugD, fAugI, olS, odS, odH, inS, getElem_s, E, h3]
    · have := hc.1
      unfold il; rw [List.length_map]; unfold lim; omega
    · exact hcomp
  have c3 := law_sets_lv (lvm := m) (by omega) (lft_len (tk := tk) hc) (lft_lt hc)
  rw [evI]; unfold fSeq
  generalize (alls (lft tk cs)).map tl = xs at *
  generalize il (lft tk cs) = ys at *
  simp [evE, fCall, evEs, fVs, fVs0, fFresh, hcl, np__law_sets, c3, datS, seq_l]


end K26

set_option maxHeartbeats 4000000
namespace K26
open PySem L2 Pf
-- slots 2 11
variable {ns dr : List Int} {k : Int} {o2 o3 o4 o5 o6 o7 o8 o9 o10 o11 : Option SV} {m : Nat}
variable {P : List (Key × D)} {pt : Int → Int} {tk cs : List Int} {d : D}
theorem z10 (hm : 29 ≤ m) (hP : ∀ c, 0 ≤ c → c < 5 → lookD P (.inl c) = some (.int (pt c))) (hd : RR 3 d) (ht : Cs tk) (hc : Cs cs) : evS (Y m) s_law_10 (E ns dr (k) o2 (some (.dat d)) (some (.fdic P)) o5 (some (.dat (tl tk))) (some (.dat (tl cs))) (some (.dat (.list (((alls (lft tk cs)).filter (fD pt tk d)).map tl)))) o9 o10 o11) = some (.next, (E ns dr (k) o2 (some (.dat d)) (some (.fdic P)) o5 (some (.dat (tl tk))) (some (.dat (tl cs))) (some (.dat (.list (((alls (lft tk cs)).filter (fD pt tk d)).map tl)))) o9 o10 o11)) := by
  have c1 := fewest_left_lv (P := P) (pt := pt) (tk := tk) hP (n := 3) (lvm := m) (by omega) hd (cs := cs) ht.1 hc.1
  have ef : (fun s => dn pt (fun c => decide (c ∈ tk ++ s)) 3 d) = fD pt tk d := rfl
  rw [ef] at c1
  have hh : (alls (lft tk cs)).find? (fD pt tk d) = ((alls (lft tk cs)).filter (fD pt tk d)).head? := List.head?_filter.symm
  rw [hh] at c1
  have l0 : (0 : Nat) ≤ lim := by decide
  have hel : ∀ s ∈ (alls (lft tk cs)).filter (fD pt tk d), s.length ≤ 5 := fun s hs => by
    have h1 := ((alls_mem _ _).mp (List.mem_filter.mp hs).1).length_le
    have h2 := lft_len (tk := tk) hc
    omega
  cases hA : (alls (lft tk cs)).filter (fD pt tk d) with
  | nil =>
    rw [hA] at c1
    have c1 : ((Y m).f 9).2 [.dat d, .fdic P, .dat (tl tk), .dat (tl cs)] = some (.none, [.dat d, .fdic P, .dat (tl tk), .dat (tl cs)]) := c1
    have c2 := same_lv (m := m) 0 (by omega) (sg_none 0)
    generalize tl tk = S at *
    generalize tl cs = S2 at *
    simp [s_law_10, evB, evS, evE, evL, evO, evOs, evEs, evT, evTs, evI, evC, evP, evDd, evPs, evWs, evG, evGs, fSeq2, aft, fNext, fRet, fIf, fAsg, fAsgL, fAsgT, fAsgD, fPar, fWv, fWl, fW0, setWs, wiS, fLit, fVar, Pf.slotAt, varS, fBin, fNeg, negD, fCmp, fChain, fAnd, fOr, fNot, fBool, boolS, fTest, fIte, fAt, fAtD, fCut, fPart, fNoPart, fOs, fOs0, fFn, fVs, fVs0, fTup, fFresh, fDisp, fTupOf, fListOf, fIsi, fCall, fCallW, fVal, fSlotC, isSet, Pf.rs, Pf.rsS, Pf.rsV, rsAll, rsD, keyD, datS, datsS, setS_s, setS_dv, setS_ol, setS_dat, setS_none, setS_olst, setS_rlst, setS_fdic, setS_odic, gN, gT, gs0, gsC, lenIs, binD, add_ii, subD, mulD, fdivD, modD, cmpD, ordD, isD, isNn, isNi, isNb, isNt, isNl, isiD, at_l, at_t, fn_lenL, fn_lenT, fn_max2, fn_abs, fn_int, fn_intb, intV, seq_l, seq_t, lstV, fApp, fAugD, fAugI, olS, odS, odH, inS, getElem_s, E, fFreshD, fCopyD, np_fewest_left, np__law_same, c1, c2, eqD_nil, l0]
  | cons s A =>
    rw [hA] at c1
    have c1 : ((Y m).f 9).2 [.dat d, .fdic P, .dat (tl tk), .dat (tl cs)] = some (tl s, [.dat d, .fdic P, .dat (tl tk), .dat (tl cs)]) := c1
    have hsl := hel s (by rw [hA]; exact List.mem_cons_self)
    have c2 := same_lv (m := m) 1 (by omega) (d := tl s) (sg_tup (by unfold il; rw [List.length_map]; unfold lim; omega) fun x hx => by
      obtain ⟨i, _, rfl⟩ := List.mem_map.mp hx
      exact sg_int 0 i)
    have hne : eqD (.list ((s :: A).map tl)) (.list []) = some false := by
      rw [List.map_cons]
      refine eqD_ne_nil (n := 1) (fun x hx => ?_) (by decide)
      have hx : x ∈ (s :: A).map tl := hx
      obtain ⟨t, _, rfl⟩ := List.mem_map.mp hx
      exact shD_tl t
    have hat : atI ((s :: A).map tl) 0 = some (tl s) := at0 _ _
    generalize (s :: A).map tl = B at *
    generalize tl s = S3 at *
    generalize tl tk = S at *
    generalize tl cs = S2 at *
    simp [s_law_10, evB, evS, evE, evL, evO, evOs, evEs, evT, evTs, evI, evC, evP, evDd, evPs, evWs, evG, evGs, fSeq2, aft, fNext, fRet, fIf, fAsg, fAsgL, fAsgT, fAsgD, fPar, fWv, fWl, fW0, setWs, wiS, fLit, fVar, Pf.slotAt, varS, fBin, fNeg, negD, fCmp, fChain, fAnd, fOr, fNot, fBool, boolS, fTest, fIte, fAt, fAtD, fCut, fPart, fNoPart, fOs, fOs0, fFn, fVs, fVs0, fTup, fFresh, fDisp, fTupOf, fListOf, fIsi, fCall, fCallW, fVal, fSlotC, isSet, Pf.rs, Pf.rsS, Pf.rsV, rsAll, rsD, keyD, datS, datsS, setS_s, setS_dv, setS_ol, setS_dat, setS_none, setS_olst, setS_rlst, setS_fdic, setS_odic, gN, gT, gs0, gsC, lenIs, binD, add_ii, subD, mulD, fdivD, modD, cmpD, ordD, isD, isNn, isNi, isNb, isNt, isNl, isiD, at_l, at_t, fn_lenL, fn_lenT, fn_max2, fn_abs, fn_int, fn_intb, intV, seq_l, seq_t, lstV, fApp, fAugD, fAugI, olS, odS, odH, inS, getElem_s, E, fFreshD, fCopyD, np_fewest_left, np__law_same, c1, c2, hne, hat, l0]
theorem z13 (hm : 29 ≤ m) (hk : 0 ≤ k) (hd : RR 3 d) (h10 : Fr o10) (h11 : Fr o11) : ∃ (k' : Int) (o10' o11' : Option SV), 0 ≤ k' ∧ Fr o10' ∧ Fr o11' ∧ evS (Y m) s_law_13 (E ns dr (k) o2 (some (.dat d)) o4 o5 o6 o7 o8 o9 o10 o11) = some (.next, (E ns dr (k') o2 (some (.dat d)) o4 o5 o6 o7 o8 o9 (o10') (o11'))) := by
  have hrd : Rd 8 d := hd.rd
  obtain ⟨en', a1, k', o10', o11', hk', f10, f11, rfl⟩ := loop_inv (bd := evG (.name 10)) (body := evB (Y m) b_law_4) (P := fun i en => ∃ (k : Int) (o10 o11 : Option SV), 0 ≤ k ∧ Fr o10 ∧ Fr o11 ∧ en = (E ns dr (k) o2 (some (.dat d)) o4 o5 o6 o7 o8 o9 o10 o11)) (rngD 0 4) 0 (E ns dr (k) o2 (some (.dat d)) o4 o5 o6 o7 o8 o9 o10 o11) ⟨k, o10, o11, hk, h10, h11, rfl⟩ fun j d' en hd' hP' => by
    obtain ⟨k, o10, o11, hk, h10, h11, rfl⟩ := hP'
    obtain ⟨hj, rfl⟩ := rngD_at hd'
    rw [Int.zero_add]
    have g10 : setS 10 (.dat (.int (j : Int))) (E ns dr (k) o2 (some (.dat d)) o4 o5 o6 o7 o8 o9 o10 o11) = some (E ns dr (k) o2 (some (.dat d)) o4 o5 o6 o7 o8 o9 (some (.dat (.int (j : Int)))) o11) := by
      unfold Fr at h10
      simp [E, setS_s, h10]
    obtain ⟨v, k', hN, hk', s11⟩ : ∃ v k', Nd 8 v ∧ 0 ≤ k' ∧ evS (Y m) s_law_11 (E ns dr (k) o2 (some (.dat d)) o4 o5 o6 o7 o8 o9 (some (.dat (.int (j : Int)))) o11) = some (.next, (E ns dr (k') o2 (some (.dat d)) o4 o5 o6 o7 o8 o9 (some (.dat (.int (j : Int)))) (some (.dat v)))) := by
      unfold Fr at h11
      by_cases y : 0 < j
      · obtain ⟨v, k', hB, hk', hb⟩ := bent_lv (n := 8) (lvm := m) (by omega) (by omega) dr hk hrd
        refine ⟨v, k', hB, hk', ?_⟩
        simp [s_law_11, evB, evS, evE, evL, evO, evOs, evEs, evT, evTs, evI, evC, evP, evDd, evPs, evWs, evG, evGs, fSeq2, aft, fNext, fRet, fIf, fAsg, fAsgL, fAsgT, fAsgD, fPar, fWv, fWl, fW0, setWs, wiS, fLit, fVar, Pf.slotAt, varS, fBin, fNeg, negD, fCmp, fChain, fAnd, fOr, fNot, fBool, boolS, fTest, fIte, fAt, fAtD, fCut, fPart, fNoPart, fOs, fOs0, fFn, fVs, fVs0, fTup, fFresh, fDisp, fTupOf, fListOf, fIsi, fCall, fCallW, fVal, fSlotC, isSet, Pf.rs, Pf.rsS, Pf.rsV, rsAll, rsD, keyD, datS, datsS, setS_s, setS_dv, setS_ol, setS_dat, setS_none, setS_olst, setS_rlst, setS_fdic, setS_odic, gN, gT, gs0, gsC, lenIs, binD, add_ii, subD, mulD, fdivD, modD, cmpD, ordD, isD, isNn, isNi, isNb, isNt, isNl, isiD, at_l, at_t, fn_lenL, fn_lenT, fn_max2, fn_abs, fn_int, fn_intb, intV, seq_l, seq_t, lstV, fApp, fAugD, fAugI, olS, odS, odH, inS, getElem_s, E, y, np__law_bent, hb, h11]
      · refine ⟨d, k, hrd.nd, hk, ?_⟩
        simp [s_law_11, evB, evS, evE, evL, evO, evOs, evEs, evT, evTs, evI, evC, evP, evDd, evPs, evWs, evG, evGs, fSeq2, aft, fNext, fRet, fIf, fAsg, fAsgL, fAsgT, fAsgD, fPar, fWv, fWl, fW0, setWs, wiS, fLit, fVar, Pf.slotAt, varS, fBin, fNeg, negD, fCmp, fChain, fAnd, fOr, fNot, fBool, boolS, fTest, fIte, fAt, fAtD, fCut, fPart, fNoPart, fOs, fOs0, fFn, fVs, fVs0, fTup, fFresh, fDisp, fTupOf, fListOf, fIsi, fCall, fCallW, fVal, fSlotC, isSet, Pf.rs, Pf.rsS, Pf.rsV, rsAll, rsD, keyD, datS, datsS, setS_s, setS_dv, setS_ol, setS_dat, setS_none, setS_olst, setS_rlst, setS_fdic, setS_odic, gN, gT, gs0, gsC, lenIs, binD, add_ii, subD, mulD, fdivD, modD, cmpD, ordD, isD, isNn, isNi, isNb, isNt, isNl, isiD, at_l, at_t, fn_lenL, fn_lenT, fn_max2, fn_abs, fn_int, fn_intb, intV, seq_l, seq_t, lstV, fApp, fAugD, fAugI, olS, odS, odH, inS, getElem_s, E, y, h11]
    have c1 := is_rule_lv (n := 8) (lvm := m) (by omega) (by omega) hN
    have c2 := law_is_rule_lv (n := 8) (lvm := m) (by omega) (by omega) hN
    have c3 := says_lv (lvm := m) (by omega) (isR 8 v)
    refine ⟨_, (E ns dr (k') o2 (some (.dat d)) o4 o5 o6 o7 o8 o9 (some (.dat (.int (j : Int)))) (some (.dat v))), g10, B_next s11 (B_next ?_ rfl), k', _, _, hk', Fr_dat _, Fr_dat _, rfl⟩
    generalize isR 8 v = b at *
    simp [s_law_12, evB, evS, evE, evL, evO, evOs, evEs, evT, evTs, evI, evC, evP, evDd, evPs, evWs, evG, evGs, fSeq2, aft, fNext, fRet, fIf, fAsg, fAsgL, fAsgT, fAsgD, fPar, fWv, fWl, fW0, setWs, wiS, fLit, fVar, Pf.slotAt, varS, fBin, fNeg, negD, fCmp, fChain, fAnd, fOr, fNot, fBool, boolS, fTest, fIte, fAt, fAtD, fCut, fPart, fNoPart, fOs, fOs0, fFn, fVs, fVs0, fTup, fFresh, fDisp, fTupOf, fListOf, fIsi, fCall, fCallW, fVal, fSlotC, isSet, Pf.rs, Pf.rsS, Pf.rsV, rsAll, rsD, keyD, datS, datsS, setS_s, setS_dv, setS_ol, setS_dat, setS_none, setS_olst, setS_rlst, setS_fdic, setS_odic, gN, gT, gs0, gsC, lenIs, binD, add_ii, subD, mulD, fdivD, modD, cmpD, ordD, isD, isNn, isNi, isNb, isNt, isNl, isiD, at_l, at_t, fn_lenL, fn_lenT, fn_max2, fn_abs, fn_int, fn_intb, intV, seq_l, seq_t, lstV, fApp, fAugD, fAugI, olS, odS, odH, inS, getElem_s, E, np_is_rule, np__law_is_rule, np__law_says, c1, c2, c3]
  refine ⟨k', o10', o11', hk', f10, f11, ?_⟩
  unfold s_law_13
  refine for_next (ds := rngD 0 4) (en1 := (E ns dr (k) o2 (some (.dat d)) o4 o5 o6 o7 o8 o9 o10 o11)) ?_ a1
  exact rng1_ev (k := 4) (os := [.val (.dat (.int 4))]) (m := 4) rfl rfl rfl (by decide)
/-- a turn's start -/
def St (ns dr : List Int) (en : En) : Prop := ∃ (k : Int) (o2 o3 o4 o5 o6 o7 o8 o9 o10 o11 : Option SV), 0 ≤ k ∧ Fr o2 ∧ Fr o3 ∧ Fr o4 ∧ Fr o5 ∧ Fr o6 ∧ Fr o7 ∧ Fr o8 ∧ Fr o9 ∧ Fr o10 ∧ Fr o11 ∧ en = (E ns dr (k) o2 o3 o4 o5 o6 o7 o8 o9 o10 o11)
theorem turn_ok (hm : 29 ≤ m) {en : En} (h : St ns dr en) : ∃ en', St ns dr en' ∧ evB (Y m) b_law_1 en = some (.next, en') := by
  obtain ⟨k, o2, o3, o4, o5, o6, o7, o8, o9, o10, o11, hk, h2, h3, h4, h5, h6, h7, h8, h9, h10, h11, rfl⟩ := h
  obtain ⟨k1, d, hk1, hd, s1⟩ := z1 (ns := ns) (dr := dr) (m := m) (k := k) (o2 := o2) (o3 := o3) (o4 := o4) (o5 := o5) (o6 := o6) (o7 := o7) (o8 := o8) (o9 := o9) (o10 := o10) (o11 := o11) hm hk h3 h4
  obtain ⟨k2, P, pt, p5, hk2, hP, q5, s3⟩ := z3 (ns := ns) (dr := dr) (m := m) (k := k1) (o2 := o2) (o3 := some (.dat d)) (o5 := o5) (o6 := o6) (o7 := o7) (o8 := o8) (o9 := o9) (o10 := o10) (o11 := o11) hm hk1 h5
  obtain ⟨k3, tk, hk3, ht, s4⟩ := z4 (ns := ns) (dr := dr) (m := m) (k := k2) (o2 := o2) (o3 := some (.dat d)) (o4 := some (.odic false P)) (o5 := p5) (o6 := o6) (o7 := o7) (o8 := o8) (o9 := o9) (o10 := o10) (o11 := o11) hm hk2 h6
  obtain ⟨k4, cs, hk4, hc, s5⟩ := z5 (ns := ns) (dr := dr) (m := m) (k := k3) (o2 := o2) (o3 := some (.dat d)) (o4 := some (.odic false P)) (o5 := p5) (o6 := some (.dat (tl tk))) (o7 := o7) (o8 := o8) (o9 := o9) (o10 := o10) (o11 := o11) hm hk3 h7
  obtain ⟨p9, q9, s9⟩ := z9 (ns := ns) (dr := dr) (m := m) (k := k4) (o2 := o2) (o5 := p5) (o9 := o9) (o10 := o10) (o11 := o11) hm hP hd ht hc h9
  obtain ⟨k5, p10, p11, hk5, q10, q11, s13⟩ := z13 (ns := ns) (dr := dr) (m := m) (k := k4) (o2 := o2) (o4 := some (.fdic P)) (o5 := p5) (o6 := some (.dat (tl tk))) (o7 := some (.dat (tl cs))) (o8 := some (.dat (.list (((alls (lft tk cs)).filter (fD pt tk d)).map tl)))) (o9 := p9) (o10 := o10) (o11 := o11) hm hk4 hd h10 h11
  refine ⟨(E ns dr (k5) o2 (some (.dat d)) (some (.fdic P)) (p5) (some (.dat (tl tk))) (some (.dat (tl cs))) (some (.dat (.list (((alls (lft tk cs)).filter (fD pt tk d)).map tl)))) (p9) (p10) (p11)), ⟨_, _, _, _, _, _, _, _, _, _, _, hk5, h2, Fr_dat _, Fr_fdic _, q5, Fr_dat _, Fr_dat _, Fr_dat _, q9, q10, q11, rfl⟩, ?_⟩
  unfold b_law_1
  refine B_next s1 ?_
  refine B_next s3 ?_
  refine B_next s4 ?_
  refine B_next s5 ?_
  refine B_next (z6 hm hP hd) ?_
  refine B_next (z7 h8) ?_
  refine B_next s9 ?_
  refine B_next (z10 hm hP hd ht hc) ?_
  refine B_next s13 ?_
  rfl
theorem law_main (hm : 29 ≤ m) (ns : List Int) (hns : ns.length ≤ 63) : ∃ o, ((Y (m + 1)).f 22).2 [.rlst (ns.map PyData.int)] = some (.bool true, o) := by
  obtain ⟨dr, hdr, hd0⟩ := draws_lv (lvm := m) (by omega) ns hns
  obtain ⟨en', h1, k', o2, o3, o4, o5, o6, o7, o8, o9, o10, o11, _, _, _, _, _, _, _, _, _, _, _, rfl⟩ := loop_inv (bd := evG (.name 2)) (body := evB (Y m) b_law_1) (P := fun i en => St ns dr en) (rngD 0 6) 0 (E ns dr 0 none none none none none none none none none none) ⟨0, none, none, none, none, none, none, none, none, none, none, by decide, Fr_none, Fr_none, Fr_none, Fr_none, Fr_none, Fr_none, Fr_none, Fr_none, Fr_none, Fr_none, rfl⟩ fun j d en hd hP => by
    obtain ⟨k, o2, o3, o4, o5, o6, o7, o8, o9, o10, o11, hk, h2, h3, h4, h5, h6, h7, h8, h9, h10, h11, rfl⟩ := hP
    obtain ⟨en2, hs, ht⟩ := turn_ok (ns := ns) (dr := dr) (m := m) hm (en := E ns dr k (some (.dat d)) o3 o4 o5 o6 o7 o8 o9 o10 o11) ⟨_, _, _, _, _, _, _, _, _, _, _, hk, Fr_dat _, h3, h4, h5, h6, h7, h8, h9, h10, h11, rfl⟩
    refine ⟨_, en2, ?_, ht, hs⟩
    unfold Fr at h2
    show setS 2 (.dat d) _ = _
    simp [E, setS_s, h2]
  refine ⟨[.rlst (ns.map PyData.int)], ?_⟩
  rw [f_law]
  refine fb_ret (en' := (E ns dr (k') o2 o3 o4 o5 o6 o7 o8 o9 o10 o11)) rfl (B_next (en1 := E ns dr 0 none none none none none none none none none none) ?_ (B_next (for_next (ds := rngD 0 6) (en1 := E ns dr 0 none none none none none none none none none none) ?_ h1) (B_ret ?_))) rfl
  · have hm : mergeD [] [((.inr ("draws" : Str) : Key), PyData.list (dr.map PyData.int)), (.inr ("at" : Str), .int 0)] = W dr 0 := by
      have h : decide (("draws" : Str) = "at") = false := by decide
      simp [mergeD, putD, W, h]
    simp [evB, evS, evE, evL, evO, evOs, evEs, evT, evTs, evI, evC, evP, evDd, evPs, evWs, evG, evGs, fSeq2, aft, fNext, fRet, fIf, fAsg, fAsgL, fAsgT, fAsgD, fPar, fWv, fWl, fW0, setWs, wiS, fLit, fVar, Pf.slotAt, varS, fBin, fNeg, negD, fCmp, fChain, fAnd, fOr, fNot, fBool, boolS, fTest, fIte, fAt, fAtD, fCut, fPart, fNoPart, fOs, fOs0, fFn, fVs, fVs0, fTup, fFresh, fDisp, fTupOf, fListOf, fIsi, fCall, fCallW, fVal, fSlotC, isSet, Pf.rs, Pf.rsS, Pf.rsV, rsAll, rsD, keyD, datS, datsS, setS_s, setS_dv, setS_ol, setS_dat, setS_none, setS_olst, setS_rlst, setS_fdic, setS_odic, gN, gT, gs0, gsC, lenIs, binD, addD, subD, mulD, fdivD, modD, cmpD, ordD, isD, isN, isiD, atD, fnD, intV, seqV, lstV, fApp, fAugD, fAugI, olS, odS, odH, inS, getElem_s, E, List.replicate, np__law_draws, hd0, fAsgD, fDict, fPairs, hm]
  · exact rng1_ev (k := 6) (os := [.val (.dat (.int 6))]) (m := 6) rfl rfl rfl (by decide)
  · simp [evB, evS, evE, evL, evO, evOs, evEs, evT, evTs, evI, evC, evP, evDd, evPs, evWs, evG, evGs, fSeq2, aft, fNext, fRet, fIf, fAsg, fAsgL, fAsgT, fAsgD, fPar, fWv, fWl, fW0, setWs, wiS, fLit, fVar, Pf.slotAt, varS, fBin, fNeg, negD, fCmp, fChain, fAnd, fOr, fNot, fBool, boolS, fTest, fIte, fAt, fAtD, fCut, fPart, fNoPart, fOs, fOs0, fFn, fVs, fVs0, fTup, fFresh, fDisp, fTupOf, fListOf, fIsi, fCall, fCallW, fVal, fSlotC, isSet, Pf.rs, Pf.rsS, Pf.rsV, rsAll, rsD, keyD, datS, datsS, setS_s, setS_dv, setS_ol, setS_dat, setS_none, setS_olst, setS_rlst, setS_fdic, setS_odic, gN, gT, gs0, gsC, lenIs, binD, addD, subD, mulD, fdivD, modD, cmpD, ordD, isD, isN, isiD, atD, fnD, intV, seqV, lstV, fApp, fAugD, fAugI, olS, odS, odH, inS, getElem_s, E]
theorem law_true (ns : List Int) (hns : ns.length ≤ 63) : ∃ o, ((Y 30).f 22).2 [.rlst (ns.map PyData.int)] = some (.bool true, o) := by
  have h := law_main (m := 29) (by decide) ns hns
  rw [show 29 + 1 = 30 from rfl] at h
  exact h


end K26

set_option maxHeartbeats 4000000
namespace K26
open PySem L2 Pf
abbrev LV : Nat := 30
def topS (i : Nat) : Stmt := PySem.Challenge.pw_teachwarrant_k26_rules_of_degrees.main.body.getD i (.Pass ⟨0, 0, 0, 0⟩)
def gl : List (Str × GK) := [(("abs" : Str), GK.blt), (("all" : Str), GK.blt), (("bool" : Str), GK.blt), (("dict" : Str), GK.blt), (("int" : Str), GK.blt), (("isinstance" : Str), GK.blt), (("len" : Str), GK.blt), (("list" : Str), GK.blt), (("range" : Str), GK.blt), (("set" : Str), GK.blt), (("sorted" : Str), GK.blt), (("str" : Str), GK.blt), (("sum" : Str), GK.blt), (("tuple" : Str), GK.blt), (("is_number" : Str), GK.fn 0), (("is_from" : Str), GK.fn 1), (("is_ascending" : Str), GK.fn 2), (("is_number_set" : Str), GK.fn 3), (("set_of" : Str), GK.fn 4), (("chosen" : Str), GK.fn 5), (("all_sets" : Str), GK.fn 6), (("is_rule" : Str), GK.fn 7), (("is_done" : Str), GK.fn 8), (("fewest_left" : Str), GK.fn 9), (("_law_draws" : Str), GK.fn 10), (("_law_next" : Str), GK.fn 11), (("_law_pick" : Str), GK.fn 12), (("_law_says" : Str), GK.fn 13), (("_law_same" : Str), GK.fn 14), (("_law_bent" : Str), GK.fn 15), (("_law_sets" : Str), GK.fn 16), (("_law_is_number" : Str), GK.fn 17), (("_law_rule" : Str), GK.fn 18), (("_law_is_part" : Str), GK.fn 19), (("_law_is_rule" : Str), GK.fn 20), (("_law_done" : Str), GK.fn 21), (("law" : Str), GK.fn 22)]
abbrev s_is_number : Stmt := topS 1
def N_is_number : List Str := ["thing"]
def P_is_number : List Str := ["thing"]
theorem sc_is_number : FnScope N_is_number P_is_number (defScope s_is_number) := ⟨rfl, rfl, rfl, by decide +kernel, rfl, by decide +kernel, by decide +kernel⟩
theorem ck_is_number : chkB b_is_number ⟨N_is_number, defScope s_is_number, none, gl⟩ (defBody s_is_number) = true := by decide +kernel
abbrev s_is_from : Stmt := topS 2
def N_is_from : List Str := ["thing", "least"]
def P_is_from : List Str := ["thing", "least"]
theorem sc_is_from : FnScope N_is_from P_is_from (defScope s_is_from) := ⟨rfl, rfl, rfl, by decide +kernel, rfl, by decide +kernel, by decide +kernel⟩
theorem ck_is_from : chkB b_is_from ⟨N_is_from, defScope s_is_from, none, gl⟩ (defBody s_is_from) = true := by decide +kernel
abbrev s_is_ascending : Stmt := topS 3
def N_is_ascending : List Str := ["things", "k"]
def P_is_ascending : List Str := ["things"]
theorem sc_is_ascending : FnScope N_is_ascending P_is_ascending (defScope s_is_ascending) := ⟨rfl, rfl, rfl, by decide +kernel, rfl, by decide +kernel, by decide +kernel⟩
theorem ck_is_ascending : chkB b_is_ascending ⟨N_is_ascending, defScope s_is_ascending, none, gl⟩ (defBody s_is_ascending) = true := by decide +kernel
abbrev s_is_number_set : Stmt := topS 4
def N_is_number_set : List Str := ["thing", "one"]
def P_is_number_set : List Str := ["thing"]
theorem sc_is_number_set : FnScope N_is_number_set P_is_number_set (defScope s_is_number_set) := ⟨rfl, rfl, rfl, by decide +kernel, rfl, by decide +kernel, by decide +kernel⟩
theorem ck_is_number_set : chkB b_is_number_set ⟨N_is_number_set, defScope s_is_number_set, none, gl⟩ (defBody s_is_number_set) = true := by decide +kernel
abbrev s_set_of : Stmt := topS 5
def N_set_of : List Str := ["things"]
def P_set_of : List Str := ["things"]
theorem sc_set_of : FnScope N_set_of P_set_of (defScope s_set_of) := ⟨rfl, rfl, rfl, by decide +kernel, rfl, by decide +kernel, by decide +kernel⟩
theorem ck_set_of : chkB b_set_of ⟨N_set_of, defScope s_set_of, none, gl⟩ (defBody s_set_of) = true := by decide +kernel
abbrev s_chosen : Stmt := topS 6
def N_chosen : List Str := ["things", "many", "found", "k", "rest"]
def P_chosen : List Str := ["things", "many"]
theorem sc_chosen : FnScope N_chosen P_chosen (defScope s_chosen) := ⟨rfl, rfl, rfl, by decide +kernel, rfl, by decide +kernel, by decide +kernel⟩
theorem ck_chosen : chkB b_chosen ⟨N_chosen, defScope s_chosen, none, gl⟩ (defBody s_chosen) = true := by decide +kernel
abbrev s_all_sets : Stmt := topS 7
def N_all_sets : List Str := ["things", "found", "many"]
def P_all_sets : List Str := ["things"]
theorem sc_all_sets : FnScope N_all_sets P_all_sets (defScope s_all_sets) := ⟨rfl, rfl, rfl, by decide +kernel, rfl, by decide +kernel, by decide +kernel⟩
theorem ck_all_sets : chkB b_all_sets ⟨N_all_sets, defScope s_all_sets, none, gl⟩ (defBody s_all_sets) = true := by decide +kernel
abbrev s_is_rule : Stmt := topS 9
def N_is_rule : List Str := ["thing", "rule"]
def P_is_rule : List Str := ["thing"]
theorem sc_is_rule : FnScope N_is_rule P_is_rule (defScope s_is_rule) := ⟨rfl, rfl, rfl, by decide +kernel, rfl, by decide +kernel, by decide +kernel⟩
theorem ck_is_rule : chkB b_is_rule ⟨N_is_rule, defScope s_is_rule, none, gl⟩ (defBody s_is_rule) = true := by decide +kernel
abbrev s_is_done : Stmt := topS 10
def N_is_done : List Str := ["rule", "points", "taken", "many", "own", "course"]
def P_is_done : List Str := ["rule", "points", "taken"]
theorem sc_is_done : FnScope N_is_done P_is_done (defScope s_is_done) := ⟨rfl, rfl, rfl, by decide +kernel, rfl, by decide +kernel, by decide +kernel⟩
theorem ck_is_done : chkB b_is_done ⟨N_is_done, defScope s_is_done, none, gl⟩ (defBody s_is_done) = true := by decide +kernel
abbrev s_fewest_left : Stmt := topS 11
def N_fewest_left : List Str := ["rule", "points", "taken", "courses", "left", "some", "course"]
def P_fewest_left : List Str := ["rule", "points", "taken", "courses"]
theorem sc_fewest_left : FnScope N_fewest_left P_fewest_left (defScope s_fewest_left) := ⟨rfl, rfl, rfl, by decide +kernel, rfl, by decide +kernel, by decide +kernel⟩
theorem ck_fewest_left : chkB b_fewest_left ⟨N_fewest_left, defScope s_fewest_left, none, gl⟩ (defBody s_fewest_left) = true := by decide +kernel
abbrev s__law_draws : Stmt := topS 13
def N__law_draws : List Str := ["script", "many", "draws", "mixed", "k", "cell", "rest", "turn"]
def P__law_draws : List Str := ["script", "many"]
theorem sc__law_draws : FnScope N__law_draws P__law_draws (defScope s__law_draws) := ⟨rfl, rfl, rfl, by decide +kernel, rfl, by decide +kernel, by decide +kernel⟩
theorem ck__law_draws : chkB b__law_draws ⟨N__law_draws, defScope s__law_draws, none, gl⟩ (defBody s__law_draws) = true := by decide +kernel
abbrev s__law_next : Stmt := topS 14
def N__law_next : List Str := ["w", "many"]
def P__law_next : List Str := ["w", "many"]
theorem sc__law_next : FnScope N__law_next P__law_next (defScope s__law_next) := ⟨rfl, rfl, rfl, by decide +kernel, rfl, by decide +kernel, by decide +kernel⟩
theorem ck__law_next : chkB b__law_next ⟨N__law_next, defScope s__law_next, none, gl⟩ (defBody s__law_next) = true := by decide +kernel
abbrev s__law_pick : Stmt := topS 15
def N__law_pick : List Str := ["w", "rows"]
def P__law_pick : List Str := ["w", "rows"]
theorem sc__law_pick : FnScope N__law_pick P__law_pick (defScope s__law_pick) := ⟨rfl, rfl, rfl, by decide +kernel, rfl, by decide +kernel, by decide +kernel⟩
theorem ck__law_pick : chkB b__law_pick ⟨N__law_pick, defScope s__law_pick, none, gl⟩ (defBody s__law_pick) = true := by decide +kernel
abbrev s__law_says : Stmt := topS 16
def N__law_says : List Str := ["seen", "due"]
def P__law_says : List Str := ["seen", "due"]
theorem sc__law_says : FnScope N__law_says P__law_says (defScope s__law_says) := ⟨rfl, rfl, rfl, by decide +kernel, rfl, by decide +kernel, by decide +kernel⟩
theorem ck__law_says : chkB b__law_says ⟨N__law_says, defScope s__law_says, none, gl⟩ (defBody s__law_says) = true := by decide +kernel
abbrev s__law_same : Stmt := topS 17
def N__law_same : List Str := ["seen", "due", "k"]
def P__law_same : List Str := ["seen", "due"]
theorem sc__law_same : FnScope N__law_same P__law_same (defScope s__law_same) := ⟨rfl, rfl, rfl, by decide +kernel, rfl, by decide +kernel, by decide +kernel⟩
theorem ck__law_same : chkB b__law_same ⟨N__law_same, defScope s__law_same, none, gl⟩ (defBody s__law_same) = true := by decide +kernel
abbrev s__law_bent : Stmt := topS 18
def N__law_bent : List Str := ["w", "value", "at"]
def P__law_bent : List Str := ["w", "value"]
theorem sc__law_bent : FnScope N__law_bent P__law_bent (defScope s__law_bent) := ⟨rfl, rfl, rfl, by decide +kernel, rfl, by decide +kernel, by decide +kernel⟩
theorem ck__law_bent : chkB b__law_bent ⟨N__law_bent, defScope s__law_bent, none, gl⟩ (defBody s__law_bent) = true := by decide +kernel
abbrev s__law_sets : Stmt := topS 19
def N__law_sets : List Str := ["things", "found", "thing", "size", "some"]
def P__law_sets : List Str := ["things"]
theorem sc__law_sets : FnScope N__law_sets P__law_sets (defScope s__law_sets) := ⟨rfl, rfl, rfl, by decide +kernel, rfl, by decide +kernel, by decide +kernel⟩
theorem ck__law_sets : chkB b__law_sets ⟨N__law_sets, defScope s__law_sets, none, gl⟩ (defBody s__law_sets) = true := by decide +kernel
abbrev s__law_is_number : Stmt := topS 20
def N__law_is_number : List Str := ["thing"]
def P__law_is_number : List Str := ["thing"]
theorem sc__law_is_number : FnScope N__law_is_number P__law_is_number (defScope s__law_is_number) := ⟨rfl, rfl, rfl, by decide +kernel, rfl, by decide +kernel, by decide +kernel⟩
theorem ck__law_is_number : chkB b__law_is_number ⟨N__law_is_number, defScope s__law_is_number, none, gl⟩ (defBody s__law_is_number) = true := by decide +kernel
abbrev s__law_rule : Stmt := topS 21
def N__law_rule : List Str := ["w", "deep", "turn", "rules", "k", "c"]
def P__law_rule : List Str := ["w", "deep"]
theorem sc__law_rule : FnScope N__law_rule P__law_rule (defScope s__law_rule) := ⟨rfl, rfl, rfl, by decide +kernel, rfl, by decide +kernel, by decide +kernel⟩
theorem ck__law_rule : chkB b__law_rule ⟨N__law_rule, defScope s__law_rule, none, gl⟩ (defBody s__law_rule) = true := by decide +kernel
abbrev s__law_is_part : Stmt := topS 22
def N__law_is_part : List Str := ["thing", "x"]
def P__law_is_part : List Str := ["thing"]
theorem sc__law_is_part : FnScope N__law_is_part P__law_is_part (defScope s__law_is_part) := ⟨rfl, rfl, rfl, by decide +kernel, rfl, by decide +kernel, by decide +kernel⟩
theorem ck__law_is_part : chkB b__law_is_part ⟨N__law_is_part, defScope s__law_is_part, none, gl⟩ (defBody s__law_is_part) = true := by decide +kernel
abbrev s__law_is_rule : Stmt := topS 23
def N__law_is_rule : List Str := ["thing", "rules", "rule"]
def P__law_is_rule : List Str := ["thing"]
theorem sc__law_is_rule : FnScope N__law_is_rule P__law_is_rule (defScope s__law_is_rule) := ⟨rfl, rfl, rfl, by decide +kernel, rfl, by decide +kernel, by decide +kernel⟩
theorem ck__law_is_rule : chkB b__law_is_rule ⟨N__law_is_rule, defScope s__law_is_rule, none, gl⟩ (defBody s__law_is_rule) = true := by decide +kernel
abbrev s__law_done : Stmt := topS 24
def N__law_done : List Str := ["rule", "points", "taken", "own", "c"]
def P__law_done : List Str := ["rule", "points", "taken"]
theorem sc__law_done : FnScope N__law_done P__law_done (defScope s__law_done) := ⟨rfl, rfl, rfl, by decide +kernel, rfl, by decide +kernel, by decide +kernel⟩
theorem ck__law_done : chkB b__law_done ⟨N__law_done, defScope s__law_done, none, gl⟩ (defBody s__law_done) = true := by decide +kernel
abbrev s_law : Stmt := topS 25
def N_law : List Str := ["script", "w", "turn", "rule", "points", "c", "taken", "courses", "able", "some", "time", "value"]
def P_law : List Str := ["script"]
theorem sc_law : FnScope N_law P_law (defScope s_law) := ⟨rfl, rfl, rfl, by decide +kernel, rfl, by decide +kernel, by decide +kernel⟩
theorem ck_law : chkB b_law ⟨N_law, defScope s_law, none, gl⟩ (defBody s_law) = true := by decide +kernel
end K26

set_option maxHeartbeats 4000000
namespace K26
open PySem L2 Pf PyProof.Rows
theorem all_mk {l : PySem.W.OpenLaw} {w : World} {K : PySem.W.Frag} {h : Heap} {mg : Str → Option Value} {fa : Addr} (X : K.In h) (G : h.Ns mainGlobals mg) (hfa : mg "law" = some (.ref fa))
    {f0 f1 f2 f3 f4 f5 f6 f7 f8 f9 f10 f11 f12 f13 f14 f15 f16 f17 f18 f19 f20 f21 f22 : Addr} {od0 an0 od1 an1 od2 an2 od3 an3 od4 an4 od5 an5 od6 an6 od7 an7 od8 an8 od9 an9 od10 an10 od11 an11 od12 an12 od13 an13 od14 an14 od15 an15 od16 an16 od17 an17 od18 an18 od19 an19 od20 an20 od21 an21 od22 an22 : Option Addr} {sl0 sl1 sl2 sl3 sl4 sl5 sl6 sl7 sl8 sl9 sl10 sl11 sl12 sl13 sl14 sl15 sl16 sl17 sl18 sl19 sl20 sl21 sl22 : Array (Option Value)}
    {oc0 kV0 dc0 pm0 cd0 ct0 oc1 kV1 dc1 pm1 cd1 ct1 oc2 kV2 dc2 pm2 cd2 ct2 oc3 kV3 dc3 pm3 cd3 ct3 oc4 kV4 dc4 pm4 cd4 ct4 oc5 kV5 dc5 pm5 cd5 ct5 oc6 kV6 dc6 pm6 cd6 ct6 oc7 kV7 dc7 pm7 cd7 ct7 oc8 kV8 dc8 pm8 cd8 ct8 oc9 kV9 dc9 pm9 cd9 ct9 oc10 kV10 dc10 pm10 cd10 ct10 oc11 kV11 dc11 pm11 cd11 ct11 oc12 kV12 dc12 pm12 cd12 ct12 oc13 kV13 dc13 pm13 cd13 ct13 oc14 kV14 dc14 pm14 cd14 ct14 oc15 kV15 dc15 pm15 cd15 ct15 oc16 kV16 dc16 pm16 cd16 ct16 oc17 kV17 dc17 pm17 cd17 ct17 oc18 kV18 dc18 pm18 cd18 ct18 oc19 kV19 dc19 pm19 cd19 ct19 oc20 kV20 dc20 pm20 cd20 ct20 oc21 kV21 dc21 pm21 cd21 ct21 oc22 kV22 dc22 pm22 cd22 ct22 : Value}
    (a0 : PySem.W.nsIn K mainGlobals "is_number" = some (some (.ref f0))) (l0 : K.lookup f0 = some ⟨oc0, od0, .func (PySem.W.fnOf "is_number" "is_number" (defArgs s_is_number) (defBody s_is_number) (defScope s_is_number) .none kV0 dc0 pm0 an0 cd0 ct0), sl0⟩) (c0 : PySem.W.codeIn K cd0 "is_number" = true) (k0 : PySem.W.keepIn K (.ref f0) = true)
    (a1 : PySem.W.nsIn K mainGlobals "is_from" = some (some (.ref f1))) (l1 : K.lookup f1 = some ⟨oc1, od1, .func (PySem.W.fnOf "is_from" "is_from" (defArgs s_is_from) (defBody s_is_from) (defScope s_is_from) .none kV1 dc1 pm1 an1 cd1 ct1), sl1⟩) (c1 : PySem.W.codeIn K cd1 "is_from" = true) (k1 : PySem.W.keepIn K (.ref f1) = true)
    (a2 : PySem.W.nsIn K mainGlobals "is_ascending" = some (some (.ref f2))) (l2 : K.lookup f2 = some ⟨oc2, od2, .func (PySem.W.fnOf "is_ascending" "is_ascending" (defArgs s_is_ascending) (defBody s_is_ascending) (defScope s_is_ascending) .none kV2 dc2 pm2 an2 cd2 ct2), sl2⟩) (c2 : PySem.W.codeIn K cd2 "is_ascending" = true) (k2 : PySem.W.keepIn K (.ref f2) = true)
    (a3 : PySem.W.nsIn K mainGlobals "is_number_set" = some (some (.ref f3))) (l3 : K.lookup f3 = some ⟨oc3, od3, .func (PySem.W.fnOf "is_number_set" "is_number_set" (defArgs s_is_number_set) (defBody s_is_number_set) (defScope s_is_number_set) .none kV3 dc3 pm3 an3 cd3 ct3), sl3⟩) (c3 : PySem.W.codeIn K cd3 "is_number_set" = true) (k3 : PySem.W.keepIn K (.ref f3) = true)
    (a4 : PySem.W.nsIn K mainGlobals "set_of" = some (some (.ref f4))) (l4 : K.lookup f4 = some ⟨oc4, od4, .func (PySem.W.fnOf "set_of" "set_of" (defArgs s_set_of) (defBody s_set_of) (defScope s_set_of) .none kV4 dc4 pm4 an4 cd4 ct4), sl4⟩) (c4 : PySem.W.codeIn K cd4 "set_of" = true) (k4 : PySem.W.keepIn K (.ref f4) = true)
    (a5 : PySem.W.nsIn K mainGlobals "chosen" = some (some (.ref f5))) (l5 : K.lookup f5 = some ⟨oc5, od5, .func (PySem.W.fnOf "chosen" "chosen" (defArgs s_chosen) (defBody s_chosen) (defScope s_chosen) .none kV5 dc5 pm5 an5 cd5 ct5), sl5⟩) (c5 : PySem.W.codeIn K cd5 "chosen" = true) (k5 : PySem.W.keepIn K (.ref f5) = true)
    (a6 : PySem.W.nsIn K mainGlobals "all_sets" = some (some (.ref f6))) (l6 : K.lookup f6 = some ⟨oc6, od6, .func (PySem.W.fnOf "all_sets" "all_sets" (defArgs s_all_sets) (defBody s_all_sets) (defScope s_all_sets) .none kV6 dc6 pm6 an6 cd6 ct6), sl6⟩) (c6 : PySem.W.codeIn K cd6 "all_sets" = true) (k6 : PySem.W.keepIn K (.ref f6) = true)
    (a7 : PySem.W.nsIn K mainGlobals "is_rule" = some (some (.ref f7))) (l7 : K.lookup f7 = some ⟨oc7, od7, .func (PySem.W.fnOf "is_rule" "is_rule" (defArgs s_is_rule) (defBody s_is_rule) (defScope s_is_rule) .none kV7 dc7 pm7 an7 cd7 ct7), sl7⟩) (c7 : PySem.W.codeIn K cd7 "is_rule" = true) (k7 : PySem.W.keepIn K (.ref f7) = true)
    (a8 : PySem.W.nsIn K mainGlobals "is_done" = some (some (.ref f8))) (l8 : K.lookup f8 = some ⟨oc8, od8, .func (PySem.W.fnOf "is_done" "is_done" (defArgs s_is_done) (defBody s_is_done) (defScope s_is_done) .none kV8 dc8 pm8 an8 cd8 ct8), sl8⟩) (c8 : PySem.W.codeIn K cd8 "is_done" = true) (k8 : PySem.W.keepIn K (.ref f8) = true)
    (a9 : PySem.W.nsIn K mainGlobals "fewest_left" = some (some (.ref f9))) (l9 : K.lookup f9 = some ⟨oc9, od9, .func (PySem.W.fnOf "fewest_left" "fewest_left" (defArgs s_fewest_left) (defBody s_fewest_left) (defScope s_fewest_left) .none kV9 dc9 pm9 an9 cd9 ct9), sl9⟩) (c9 : PySem.W.codeIn K cd9 "fewest_left" = true) (k9 : PySem.W.keepIn K (.ref f9) = true)
    (a10 : PySem.W.nsIn K mainGlobals "_law_draws" = some (some (.ref f10))) (l10 : K.lookup f10 = some ⟨oc10, od10, .func (PySem.W.fnOf "_law_draws" "_law_draws" (defArgs s__law_draws) (defBody s__law_draws) (defScope s__law_draws) .none kV10 dc10 pm10 an10 cd10 ct10), sl10⟩) (c10 : PySem.W.codeIn K cd10 "_law_draws" = true) (k10 : PySem.W.keepIn K (.ref f10) = true)
    (a11 : PySem.W.nsIn K mainGlobals "_law_next" = some (some (.ref f11))) (l11 : K.lookup f11 = some ⟨oc11, od11, .func (PySem.W.fnOf "_law_next" "_law_next" (defArgs s__law_next) (defBody s__law_next) (defScope s__law_next) .none kV11 dc11 pm11 an11 cd11 ct11), sl11⟩) (c11 : PySem.W.codeIn K cd11 "_law_next" = true) (k11 : PySem.W.keepIn K (.ref f11) = true)
    (a12 : PySem.W.nsIn K mainGlobals "_law_pick" = some (some (.ref f12))) (l12 : K.lookup f12 = some ⟨oc12, od12, .func (PySem.W.fnOf "_law_pick" "_law_pick" (defArgs s__law_pick) (defBody s__law_pick) (defScope s__law_pick) .none kV12 dc12 pm12 an12 cd12 ct12), sl12⟩) (c12 : PySem.W.codeIn K cd12 "_law_pick" = true) (k12 : PySem.W.keepIn K (.ref f12) = true)
    (a13 : PySem.W.nsIn K mainGlobals "_law_says" = some (some (.ref f13))) (l13 : K.lookup f13 = some ⟨oc13, od13, .func (PySem.W.fnOf "_law_says" "_law_says" (defArgs s__law_says) (defBody s__law_says) (defScope s__law_says) .none kV13 dc13 pm13 an13 cd13 ct13), sl13⟩) (c13 : PySem.W.codeIn K cd13 "_law_says" = true) (k13 : PySem.W.keepIn K (.ref f13) = true)
    (a14 : PySem.W.nsIn K mainGlobals "_law_same" = some (some (.ref f14))) (l14 : K.lookup f14 = some ⟨oc14, od14, .func (PySem.W.fnOf "_law_same" "_law_same" (defArgs s__law_same) (defBody s__law_same) (defScope s__law_same) .none kV14 dc14 pm14 an14 cd14 ct14), sl14⟩) (c14 : PySem.W.codeIn K cd14 "_law_same" = true) (k14 : PySem.W.keepIn K (.ref f14) = true)
    (a15 : PySem.W.nsIn K mainGlobals "_law_bent" = some (some (.ref f15))) (l15 : K.lookup f15 = some ⟨oc15, od15, .func (PySem.W.fnOf "_law_bent" "_law_bent" (defArgs s__law_bent) (defBody s__law_bent) (defScope s__law_bent) .none kV15 dc15 pm15 an15 cd15 ct15), sl15⟩) (c15 : PySem.W.codeIn K cd15 "_law_bent" = true) (k15 : PySem.W.keepIn K (.ref f15) = true)
    (a16 : PySem.W.nsIn K mainGlobals "_law_sets" = some (some (.ref f16))) (l16 : K.lookup f16 = some ⟨oc16, od16, .func (PySem.W.fnOf "_law_sets" "_law_sets" (defArgs s__law_sets) (defBody s__law_sets) (defScope s__law_sets) .none kV16 dc16 pm16 an16 cd16 ct16), sl16⟩) (c16 : PySem.W.codeIn K cd16 "_law_sets" = true) (k16 : PySem.W.keepIn K (.ref f16) = true)
    (a17 : PySem.W.nsIn K mainGlobals "_law_is_number" = some (some (.ref f17))) (l17 : K.lookup f17 = some ⟨oc17, od17, .func (PySem.W.fnOf "_law_is_number" "_law_is_number" (defArgs s__law_is_number) (defBody s__law_is_number) (defScope s__law_is_number) .none kV17 dc17 pm17 an17 cd17 ct17), sl17⟩) (c17 : PySem.W.codeIn K cd17 "_law_is_number" = true) (k17 : PySem.W.keepIn K (.ref f17) = true)
    (a18 : PySem.W.nsIn K mainGlobals "_law_rule" = some (some (.ref f18))) (l18 : K.lookup f18 = some ⟨oc18, od18, .func (PySem.W.fnOf "_law_rule" "_law_rule" (defArgs s__law_rule) (defBody s__law_rule) (defScope s__law_rule) .none kV18 dc18 pm18 an18 cd18 ct18), sl18⟩) (c18 : PySem.W.codeIn K cd18 "_law_rule" = true) (k18 : PySem.W.keepIn K (.ref f18) = true)
    (a19 : PySem.W.nsIn K mainGlobals "_law_is_part" = some (some (.ref f19))) (l19 : K.lookup f19 = some ⟨oc19, od19, .func (PySem.W.fnOf "_law_is_part" "_law_is_part" (defArgs s__law_is_part) (defBody s__law_is_part) (defScope s__law_is_part) .none kV19 dc19 pm19 an19 cd19 ct19), sl19⟩) (c19 : PySem.W.codeIn K cd19 "_law_is_part" = true) (k19 : PySem.W.keepIn K (.ref f19) = true)
    (a20 : PySem.W.nsIn K mainGlobals "_law_is_rule" = some (some (.ref f20))) (l20 : K.lookup f20 = some ⟨oc20, od20, .func (PySem.W.fnOf "_law_is_rule" "_law_is_rule" (defArgs s__law_is_rule) (defBody s__law_is_rule) (defScope s__law_is_rule) .none kV20 dc20 pm20 an20 cd20 ct20), sl20⟩) (c20 : PySem.W.codeIn K cd20 "_law_is_rule" = true) (k20 : PySem.W.keepIn K (.ref f20) = true)
    (a21 : PySem.W.nsIn K mainGlobals "_law_done" = some (some (.ref f21))) (l21 : K.lookup f21 = some ⟨oc21, od21, .func (PySem.W.fnOf "_law_done" "_law_done" (defArgs s__law_done) (defBody s__law_done) (defScope s__law_done) .none kV21 dc21 pm21 an21 cd21 ct21), sl21⟩) (c21 : PySem.W.codeIn K cd21 "_law_done" = true) (k21 : PySem.W.keepIn K (.ref f21) = true)
    (a22 : PySem.W.nsIn K mainGlobals "law" = some (some (.ref f22))) (l22 : K.lookup f22 = some ⟨oc22, od22, .func (PySem.W.fnOf "law" "law" (defArgs s_law) (defBody s_law) (defScope s_law) .none kV22 dc22 pm22 an22 cd22 ct22), sl22⟩) (c22 : PySem.W.codeIn K cd22 "law" = true) (k22 : PySem.W.keepIn K (.ref f22) = true)
    (z0 : PySem.W.nsIn K mainGlobals "abs" = some none)
    (z1 : PySem.W.nsIn K mainGlobals "all" = some none)
    (z2 : PySem.W.nsIn K mainGlobals "bool" = some none)
    (z3 : PySem.W.nsIn K mainGlobals "dict" = some none)
    (z4 : PySem.W.nsIn K mainGlobals "int" = some none)
    (z5 : PySem.W.nsIn K mainGlobals "isinstance" = some none)
    (z6 : PySem.W.nsIn K mainGlobals "len" = some none)
    (z7 : PySem.W.nsIn K mainGlobals "list" = some none)
    (z8 : PySem.W.nsIn K mainGlobals "range" = some none)
    (z9 : PySem.W.nsIn K mainGlobals "set" = some none)
    (z10 : PySem.W.nsIn K mainGlobals "sorted" = some none)
    (z11 : PySem.W.nsIn K mainGlobals "str" = some none)
    (z12 : PySem.W.nsIn K mainGlobals "sum" = some none)
    (z13 : PySem.W.nsIn K mainGlobals "tuple" = some none)
    : ∃ fd : FuncData, (∀ (s : Shared) (v : Value), BindsTo s fd ⟨[v], []⟩ [("script", v)]) ∧ ∀ base : Heap, K.In base → base.Ns mainGlobals mg → FnOk l.prog w K mg base CX0 LV fa fd ["script"] (spD K ((Y LV).f 22).2 ((Y LV).f 22).1) := by
  have e := hfa.symm.trans (PySem.W.mg_of X G a22)
  cases e
  have m0 := PySem.W.mg_of X G a0
  have F0 := fun_mk (st := s_is_number) l0 c0 k0
  have B0 := F0.binds (ps := P_is_number) fun _ _ _ _ _ _ us hl => match us, hl with | [_], _ => rfl
  have m1 := PySem.W.mg_of X G a1
  have F1 := fun_mk (st := s_is_from) l1 c1 k1
  have B1 := F1.binds (ps := P_is_from) fun _ _ _ _ _ _ us hl => match us, hl with | [_, _], _ => rfl
  have m2 := PySem.W.mg_of X G a2
  have F2 := fun_mk (st := s_is_ascending) l2 c2 k2
  have B2 := F2.binds (ps := P_is_ascending) fun _ _ _ _ _ _ us hl => match us, hl with | [_], _ => rfl
  have m3 := PySem.W.mg_of X G a3
  have F3 := fun_mk (st := s_is_number_set) l3 c3 k3
  have B3 := F3.binds (ps := P_is_number_set) fun _ _ _ _ _ _ us hl => match us, hl with | [_], _ => rfl
  have m4 := PySem.W.mg_of X G a4
  have F4 := fun_mk (st := s_set_of) l4 c4 k4
  have B4 := F4.binds (ps := P_set_of) fun _ _ _ _ _ _ us hl => match us, hl with | [_], _ => rfl
  have m5 := PySem.W.mg_of X G a5
  have F5 := fun_mk (st := s_chosen) l5 c5 k5
  have B5 := F5.binds (ps := P_chosen) fun _ _ _ _ _ _ us hl => match us, hl with | [_, _], _ => rfl
  have m6 := PySem.W.mg_of X G a6
  have F6 := fun_mk (st := s_all_sets) l6 c6 k6
  have B6 := F6.binds (ps := P_all_sets) fun _ _ _ _ _ _ us hl => match us, hl with | [_], _ => rfl
  have m7 := PySem.W.mg_of X G a7
  have F7 := fun_mk (st := s_is_rule) l7 c7 k7
  have B7 := F7.binds (ps := P_is_rule) fun _ _ _ _ _ _ us hl => match us, hl with | [_], _ => rfl
  have m8 := PySem.W.mg_of X G a8
  have F8 := fun_mk (st := s_is_done) l8 c8 k8
  have B8 := F8.binds (ps := P_is_done) fun _ _ _ _ _ _ us hl => match us, hl with | [_, _, _], _ => rfl
  have m9 := PySem.W.mg_of X G a9
  have F9 := fun_mk (st := s_fewest_left) l9 c9 k9
  have B9 := F9.binds (ps := P_fewest_left) fun _ _ _ _ _ _ us hl => match us, hl with | [_, _, _, _], _ => rfl
  have m10 := PySem.W.mg_of X G a10
  have F10 := fun_mk (st := s__law_draws) l10 c10 k10
  have B10 := F10.binds (ps := P__law_draws) fun _ _ _ _ _ _ us hl => match us, hl with | [_, _], _ => rfl
  have m11 := PySem.W.mg_of X G a11
  have F11 := fun_mk (st := s__law_next) l11 c11 k11
  have B11 := F11.binds (ps := P__law_next) fun _ _ _ _ _ _ us hl => match us, hl with | [_, _], _ => rfl
  have m12 := PySem.W.mg_of X G a12
  have F12 := fun_mk (st := s__law_pick) l12 c12 k12
  have B12 := F12.binds (ps := P__law_pick) fun _ _ _ _ _ _ us hl => match us, hl with | [_, _], _ => rfl
  have m13 := PySem.W.mg_of X G a13
  have F13 := fun_mk (st := s__law_says) l13 c13 k13
  have B13 := F13.binds (ps := P__law_says) fun _ _ _ _ _ _ us hl => match us, hl with | [_, _], _ => rfl
  have m14 := PySem.W.mg_of X G a14
  have F14 := fun_mk (st := s__law_same) l14 c14 k14
  have B14 := F14.binds (ps := P__law_same) fun _ _ _ _ _ _ us hl => match us, hl with | [_, _], _ => rfl
  have m15 := PySem.W.mg_of X G a15
  have F15 := fun_mk (st := s__law_bent) l15 c15 k15
  have B15 := F15.binds (ps := P__law_bent) fun _ _ _ _ _ _ us hl => match us, hl with | [_, _], _ => rfl
  have m16 := PySem.W.mg_of X G a16
  have F16 := fun_mk (st := s__law_sets) l16 c16 k16
  have B16 := F16.binds (ps := P__law_sets) fun _ _ _ _ _ _ us hl => match us, hl with | [_], _ => rfl
  have m17 := PySem.W.mg_of X G a17
  have F17 := fun_mk (st := s__law_is_number) l17 c17 k17
  have B17 := F17.binds (ps := P__law_is_number) fun _ _ _ _ _ _ us hl => match us, hl with | [_], _ => rfl
  have m18 := PySem.W.mg_of X G a18
  have F18 := fun_mk (st := s__law_rule) l18 c18 k18
  have B18 := F18.binds (ps := P__law_rule) fun _ _ _ _ _ _ us hl => match us, hl with | [_, _], _ => rfl
  have m19 := PySem.W.mg_of X G a19
  have F19 := fun_mk (st := s__law_is_part) l19 c19 k19
  have B19 := F19.binds (ps := P__law_is_part) fun _ _ _ _ _ _ us hl => match us, hl with | [_], _ => rfl
  have m20 := PySem.W.mg_of X G a20
  have F20 := fun_mk (st := s__law_is_rule) l20 c20 k20
  have B20 := F20.binds (ps := P__law_is_rule) fun _ _ _ _ _ _ us hl => match us, hl with | [_], _ => rfl
  have m21 := PySem.W.mg_of X G a21
  have F21 := fun_mk (st := s__law_done) l21 c21 k21
  have B21 := F21.binds (ps := P__law_done) fun _ _ _ _ _ _ us hl => match us, hl with | [_, _, _], _ => rfl
  have m22 := PySem.W.mg_of X G a22
  have F22 := fun_mk (st := s_law) l22 c22 k22
  have B22 := F22.binds (ps := P_law) fun _ _ _ _ _ _ us hl => match us, hl with | [_], _ => rfl
  have tab : TabOk K mg gl 0 T := .cons (fd_mk m0 F0 sc_is_number B0 ck_is_number (by decide +kernel) rfl rfl) (.cons (fd_mk m1 F1 sc_is_from B1 ck_is_from (by decide +kernel) rfl rfl) (.cons (fd_mk m2 F2 sc_is_ascending B2 ck_is_ascending (by decide +kernel) rfl rfl) (.cons (fd_mk m3 F3 sc_is_number_set B3 ck_is_number_set (by decide +kernel) rfl rfl) (.cons (fd_mk m4 F4 sc_set_of B4 ck_set_of (by decide +kernel) rfl rfl) (.cons (fd_mk m5 F5 sc_chosen B5 ck_chosen (by decide +kernel) rfl rfl) (.cons (fd_mk m6 F6 sc_all_sets B6 ck_all_sets (by decide +kernel) rfl rfl) (.cons (fd_mk m7 F7 sc_is_rule B7 ck_is_rule (by decide +kernel) rfl rfl) (.cons (fd_mk m8 F8 sc_is_done B8 ck_is_done (by decide +kernel) rfl rfl) (.cons (fd_mk m9 F9 sc_fewest_left B9 ck_fewest_left (by decide +kernel) rfl rfl) (.cons (fd_mk m10 F10 sc__law_draws B10 ck__law_draws (by decide +kernel) rfl rfl) (.cons (fd_mk m11 F11 sc__law_next B11 ck__law_next (by decide +kernel) rfl rfl) (.cons (fd_mk m12 F12 sc__law_pick B12 ck__law_pick (by decide +kernel) rfl rfl) (.cons (fd_mk m13 F13 sc__law_says B13 ck__law_says (by decide +kernel) rfl rfl) (.cons (fd_mk m14 F14 sc__law_same B14 ck__law_same (by decide +kernel) rfl rfl) (.cons (fd_mk m15 F15 sc__law_bent B15 ck__law_bent (by decide +kernel) rfl rfl) (.cons (fd_mk m16 F16 sc__law_sets B16 ck__law_sets (by decide +kernel) rfl rfl) (.cons (fd_mk m17 F17 sc__law_is_number B17 ck__law_is_number (by decide +kernel) rfl rfl) (.cons (fd_mk m18 F18 sc__law_rule B18 ck__law_rule (by decide +kernel) rfl rfl) (.cons (fd_mk m19 F19 sc__law_is_part B19 ck__law_is_part (by decide +kernel) rfl rfl) (.cons (fd_mk m20 F20 sc__law_is_rule B20 ck__law_is_rule (by decide +kernel) rfl rfl) (.cons (fd_mk m21 F21 sc__law_done B21 ck__law_done (by decide +kernel) rfl rfl) (.cons (fd_mk m22 F22 sc_law B22 ck_law (by decide +kernel) rfl rfl) (.nil)))))))))))))))))))))))
  have hbl : ∀ x ∈ (["abs", "all", "bool", "dict", "int", "isinstance", "len", "list", "range", "set", "sorted", "str", "sum", "tuple"] : List Str), mg x = none := by
    intro x hx
    simp only [List.mem_cons, List.not_mem_nil, or_false] at hx
    rcases hx with rfl | rfl | rfl | rfl | rfl | rfl | rfl | rfl | rfl | rfl | rfl | rfl | rfl | rfl
    · exact PySem.W.mg_none_of X G z0
    · exact PySem.W.mg_none_of X G z1
    · exact PySem.W.mg_none_of X G z2
    · exact PySem.W.mg_none_of X G z3
    · exact PySem.W.mg_none_of X G z4
    · exact PySem.W.mg_none_of X G z5
    · exact PySem.W.mg_none_of X G z6
    · exact PySem.W.mg_none_of X G z7
    · exact PySem.W.mg_none_of X G z8
    · exact PySem.W.mg_none_of X G z9
    · exact PySem.W.mg_none_of X G z10
    · exact PySem.W.mg_none_of X G z11
    · exact PySem.W.mg_none_of X G z12
    · exact PySem.W.mg_none_of X G z13
  have hgl : GlOk K mg gl T C := {
    blt := fun x hx => hbl x (blt_of (by decide +kernel) hx)
    cst := fun x k hk => by
      have hx := cst_of (l := []) (by decide +kernel) hk
      cases hx
    fns := fun x j hj => fns_of (n := T.length) (by decide +kernel) hj }
  exact ⟨_, fun s v => .of_eq rfl, fun base _ _ => law_ok (n := 29) (j := 22) tab hgl F22 sc_law rfl ck_law rfl rfl⟩
end K26
open PySem PySem.W PyProof.Rows
set_option maxHeartbeats 0 in
theorem PySem.Challenge.cw_teachwarrant_k26_rules_of_degrees_holds : PySem.Challenge.rw_teachwarrant_k26_rules_of_degrees.Holds := by
  w_on; o_law; k_head; (case hw => w_witness2)
  k_fill
  refine L2.walk_of (l := PySem.Challenge.rw_teachwarrant_k26_rules_of_degrees) (n := 63) (k := K26.LV) (x := "script") (CX := fun _ => L2.CX0) (sp := fun w => Pf.spD _ ((K26.Y K26.LV).f 22).2 ((K26.Y K26.LV).f 22).1) rfl (by decide) rfl ⟨rfl, by decide, by decide⟩ (fun w h Y => PySem.W.kIn_of Y) ?F (fun _ _ a ns hl _ hS => (Pf.law_sp hS (K26.law_true ns hl).choose_spec)) (fun _ _ _ _ _ h => h)
  case F =>
    intro w mg fa h KX G hmg
    refine' K26.all_mk KX G hmg ?a0 ?l0 ?c0 ?k0 ?a1 ?l1 ?c1 ?k1 ?a2 ?l2 ?c2 ?k2 ?a3 ?l3 ?c3 ?k3 ?a4 ?l4 ?c4 ?k4 ?a5 ?l5 ?c5 ?k5 ?a6 ?l6 ?c6 ?k6 ?a7 ?l7 ?c7 ?k7 ?a8 ?l8 ?c8 ?k8 ?a9 ?l9 ?c9 ?k9 ?a10 ?l10 ?c10 ?k10 ?a11 ?l11 ?c11 ?k11 ?a12 ?l12 ?c12 ?k12 ?a13 ?l13 ?c13 ?k13 ?a14 ?l14 ?c14 ?k14 ?a15 ?l15 ?c15 ?k15 ?a16 ?l16 ?c16 ?k16 ?a17 ?l17 ?c17 ?k17 ?a18 ?l18 ?c18 ?k18 ?a19 ?l19 ?c19 ?k19 ?a20 ?l20 ?c20 ?k20 ?a21 ?l21 ?c21 ?k21 ?a22 ?l22 ?c22 ?k22 ?z0 ?z1 ?z2 ?z3 ?z4 ?z5 ?z6 ?z7 ?z8 ?z9 ?z10 ?z11 ?z12 ?z13
    (case a0 => k_is); (case l0 => k_is); (case c0 => k_is); (case k0 => k_is); (case a1 => k_is); (case l1 => k_is); (case c1 => k_is); (case k1 => k_is); (case a2 => k_is); (case l2 => k_is); (case c2 => k_is); (case k2 => k_is); (case a3 => k_is); (case l3 => k_is); (case c3 => k_is); (case k3 => k_is); (case a4 => k_is); (case l4 => k_is); (case c4 => k_is); (case k4 => k_is); (case a5 => k_is); (case l5 => k_is); (case c5 => k_is); (case k5 => k_is); (case a6 => k_is); (case l6 => k_is); (case c6 => k_is); (case k6 => k_is); (case a7 => k_is); (case l7 => k_is); (case c7 => k_is); (case k7 => k_is); (case a8 => k_is); (case l8 => k_is); (case c8 => k_is); (case k8 => k_is); (case a9 => k_is); (case l9 => k_is); (case c9 => k_is); (case k9 => k_is); (case a10 => k_is); (case l10 => k_is); (case c10 => k_is); (case k10 => k_is); (case a11 => k_is); (case l11 => k_is); (case c11 => k_is); (case k11 => k_is); (case a12 => k_is); (case l12 => k_is); (case c12 => k_is); (case k12 => k_is); (case a13 => k_is); (case l13 => k_is); (case c13 => k_is); (case k13 => k_is); (case a14 => k_is); (case l14 => k_is); (case c14 => k_is); (case k14 => k_is); (case a15 => k_is); (case l15 => k_is); (case c15 => k_is); (case k15 => k_is); (case a16 => k_is); (case l16 => k_is); (case c16 => k_is); (case k16 => k_is); (case a17 => k_is); (case l17 => k_is); (case c17 => k_is); (case k17 => k_is); (case a18 => k_is); (case l18 => k_is); (case c18 => k_is); (case k18 => k_is); (case a19 => k_is); (case l19 => k_is); (case c19 => k_is); (case k19 => k_is); (case a20 => k_is); (case l20 => k_is); (case c20 => k_is); (case k20 => k_is); (case a21 => k_is); (case l21 => k_is); (case c21 => k_is); (case k21 => k_is); (case a22 => k_is); (case l22 => k_is); (case c22 => k_is); (case k22 => k_is); (case z0 => k_is); (case z1 => k_is); (case z2 => k_is); (case z3 => k_is); (case z4 => k_is); (case z5 => k_is); (case z6 => k_is); (case z7 => k_is); (case z8 => k_is); (case z9 => k_is); (case z10 => k_is); (case z11 => k_is); (case z12 => k_is); (case z13 => k_is)
